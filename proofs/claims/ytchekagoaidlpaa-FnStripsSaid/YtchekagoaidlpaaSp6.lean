import Derived.Test.YtchekagoaidlpaaSp2
namespace Go.Proofs.Ytchekagoaidlpaa
open Go.Dv Go.Dv.EvL
attribute [local irreducible] Ok Rm Dm Om Sm Xm Cm Gm Hm Tm

/-! ### the sentence -/
def twoT (n : Int) : Txt := num (n.tdiv 10) ++ num (n.tmod 10)
theorem td_in {n : Int} (h : 0 ≤ n ∧ n ≤ 100000) : (0 ≤ n.tdiv 10 ∧ n.tdiv 10 ≤ 100000) ∧ 0 ≤ n.tmod 10 ∧ n.tmod 10 ≤ 9 := by
  have h1 : (n.tdiv 10).natAbs = n.natAbs / 10 := Int.natAbs_tdiv n 10
  have h2 := Int.tdiv_nonneg h.1 (show (0 : Int) ≤ 10 by decide)
  have h3 := Int.mul_tdiv_add_tmod n 10
  have h4 := Int.tmod_nonneg 10 h.1
  have h5 := Int.tmod_lt_of_pos n (show (0 : Int) < 10 by decide)
  omega
theorem td60_in {n : Int} (h : 0 ≤ n ∧ n ≤ 1439) : (0 ≤ n.tdiv 60 ∧ n.tdiv 60 ≤ 23) ∧ 0 ≤ n.tmod 60 ∧ n.tmod 60 ≤ 59 := by
  have h1 : (n.tdiv 60).natAbs = n.natAbs / 60 := Int.natAbs_tdiv n 60
  have h2 := Int.tdiv_nonneg h.1 (show (0 : Int) ≤ 60 by decide)
  have h4 := Int.tmod_nonneg 60 h.1
  have h5 := Int.tmod_lt_of_pos n (show (0 : Int) < 60 by decide)
  omega
theorem twoT_len {n : Int} (h : 0 ≤ n ∧ n ≤ 100000) : (twoT n).length ≤ 40 := by
  have h1 := td_in h
  have h2 := num_le (n := n.tdiv 10) (by omega)
  have h3 := num_le (n := n.tmod 10) (by omega)
  simp [twoT]
  omega
set_option maxRecDepth 100000 in
set_option maxHeartbeats 16000000 in
/-- impl.twoDigits -/
theorem k_twoDigits (n : Int) (hn : 0 ≤ n ∧ n ≤ 100000) : Okv Try.prog 99 [.int .i64 n] (.p (.str (twoT n))) := by
  refine ok_D hmix c_impl_twoDigits (by simp) ?_
  have h1 := td_in hn
  have h2 := num_le (n := n.tdiv 10) (by omega)
  have h3 := num_le (n := n.tmod 10) (by omega)
  unfold twoT
  simp only [envOf, envFrom, go_sem, reduceIte, Nat.reduceEqDiff]
  repeat' (first
    | (simp only [go_sem, reduceIte, Nat.reduceEqDiff])
    | (simp (disch := omega) only [w64])
    | (refine Rm_need (by first | exact True.intro | omega | (simp; omega)) ?_)
    | (refine Rm_w rfl (k_text _ (by omega)) (by trivial) ?_)
    | (refine Rm_w ?_ (k_text _ (by omega)) (by trivial) ?_; · (simp [viewOfs, viewOf, List.take_of_length_le, cutL]; done))
    | (refine Rm_gi (by first | omega | (simp; omega)) ?_)
    | (refine Rm_gb (by first | omega | (simp; omega)) ?_)
    | (refine Rm_ga (by first | omega | (simp; omega)) _ rfl (Nat.le_of_ble_eq_true rfl) ?_)
    | (refine Rm_gm (by first | omega | (simp; omega)) _ rfl ?_)
    | (refine Rm_part _ _ rfl rfl ?_)
    | (refine Rm_puti (by first | omega | (simp; omega)) rfl ?_)
    | (refine Dm_draw [] (by simp) ?_)
    | (refine Tm_both ?_ ?_)
    | (refine Tm_fin (by simp only [hideOK, newsE]; simp []) ?_)
    | (refine Cm_split (fun h => ?_) (fun h => ?_) <;> (try (simp only [decide_eq_true_eq, decide_eq_false_iff_not, bne_iff_ne, beq_iff_eq, bne_eq_false_iff_eq, beq_eq_false_iff_ne, Bool.not_eq_true, Bool.not_eq_true', Bool.not_eq_false, Bool.not_eq_false', ne_eq, Bool.and_eq_true, Bool.or_eq_true, true_eq_decide_iff, false_eq_decide_iff] at h)) <;> (try omega))
    | (refine Gm_split (fun h => ?_) (fun h => ?_) <;> (try simp only [ne_eq, Bool.not_eq_true, Bool.not_eq_false] at h) <;> (try rw [h]) <;> (try (simp only [decide_eq_true_eq, decide_eq_false_iff_not, bne_iff_ne, beq_iff_eq, bne_eq_false_iff_eq, beq_eq_false_iff_ne, Bool.not_eq_true, Bool.not_eq_true', Bool.not_eq_false, Bool.not_eq_false', ne_eq, Bool.and_eq_true, Bool.or_eq_true, true_eq_decide_iff, false_eq_decide_iff] at h)) <;> (try omega))
    | (refine Sm_split (fun h => ?_) (fun h => ?_) <;> (try (simp only [decide_eq_true_eq, decide_eq_false_iff_not, bne_iff_ne, beq_iff_eq, bne_eq_false_iff_eq, beq_eq_false_iff_ne, Bool.not_eq_true, Bool.not_eq_true', Bool.not_eq_false, Bool.not_eq_false', ne_eq, Bool.and_eq_true, Bool.or_eq_true, true_eq_decide_iff, false_eq_decide_iff] at h)) <;> (try omega))
    | (exact ret_p rfl ⟨rfl, rfl⟩)
    | (refine ret_okv (by first | trivial | simp only [go_sem, detD, detDs, detP, and_self, and_true]) ?_)
    | (exact ret_gen _ _ _ rfl rfl rfl ⟨rfl, rfl⟩)
    | (simp only [Option.some.injEq, DV.tup.injEq, DV.p.injEq, List.cons.injEq, PV.int.injEq, PV.bool.injEq, PV.str.injEq, and_true, true_and])
    | rfl
    | (refine Bool.eq_iff_iff.2 ?_; simp only [decide_eq_true_eq, Bool.and_eq_true, Bool.or_eq_true, Bool.not_eq_true', decide_eq_false_iff_not, Bool.false_eq_true, beq_iff_eq, bne_iff_ne, ne_eq, false_iff, iff_false, true_iff, iff_true]; omega)
    | omega)
set_option maxRecDepth 100000 in
set_option maxHeartbeats 16000000 in
/-- spec.l24Two -/
theorem k_l24Two (n : Int) (hn : 0 ≤ n ∧ n ≤ 100000) : Okv Try.prog 97 [.int .i64 n] (.p (.str (twoT n))) := by
  refine ok_D hmix c_spec_l24Two (by simp) ?_
  have h1 := td_in hn
  have h2 := num_le (n := n.tdiv 10) (by omega)
  have h3 := num_le (n := n.tmod 10) (by omega)
  unfold twoT
  simp only [envOf, envFrom, go_sem, reduceIte, Nat.reduceEqDiff]
  repeat' (first
    | (simp only [go_sem, reduceIte, Nat.reduceEqDiff])
    | (simp (disch := omega) only [w64])
    | (refine Rm_need (by first | exact True.intro | omega | (simp; omega)) ?_)
    | (refine Rm_w rfl (k_l1Num _ (by omega)) (by trivial) ?_)
    | (refine Rm_w ?_ (k_l1Num _ (by omega)) (by trivial) ?_; · (simp [viewOfs, viewOf, List.take_of_length_le, cutL]; done))
    | (refine Rm_gi (by first | omega | (simp; omega)) ?_)
    | (refine Rm_gb (by first | omega | (simp; omega)) ?_)
    | (refine Rm_ga (by first | omega | (simp; omega)) _ rfl (Nat.le_of_ble_eq_true rfl) ?_)
    | (refine Rm_gm (by first | omega | (simp; omega)) _ rfl ?_)
    | (refine Rm_part _ _ rfl rfl ?_)
    | (refine Rm_puti (by first | omega | (simp; omega)) rfl ?_)
    | (refine Dm_draw [] (by simp) ?_)
    | (refine Tm_both ?_ ?_)
    | (refine Tm_fin (by simp only [hideOK, newsE]; simp []) ?_)
    | (refine Cm_split (fun h => ?_) (fun h => ?_) <;> (try (simp only [decide_eq_true_eq, decide_eq_false_iff_not, bne_iff_ne, beq_iff_eq, bne_eq_false_iff_eq, beq_eq_false_iff_ne, Bool.not_eq_true, Bool.not_eq_true', Bool.not_eq_false, Bool.not_eq_false', ne_eq, Bool.and_eq_true, Bool.or_eq_true, true_eq_decide_iff, false_eq_decide_iff] at h)) <;> (try omega))
    | (refine Gm_split (fun h => ?_) (fun h => ?_) <;> (try simp only [ne_eq, Bool.not_eq_true, Bool.not_eq_false] at h) <;> (try rw [h]) <;> (try (simp only [decide_eq_true_eq, decide_eq_false_iff_not, bne_iff_ne, beq_iff_eq, bne_eq_false_iff_eq, beq_eq_false_iff_ne, Bool.not_eq_true, Bool.not_eq_true', Bool.not_eq_false, Bool.not_eq_false', ne_eq, Bool.and_eq_true, Bool.or_eq_true, true_eq_decide_iff, false_eq_decide_iff] at h)) <;> (try omega))
    | (refine Sm_split (fun h => ?_) (fun h => ?_) <;> (try (simp only [decide_eq_true_eq, decide_eq_false_iff_not, bne_iff_ne, beq_iff_eq, bne_eq_false_iff_eq, beq_eq_false_iff_ne, Bool.not_eq_true, Bool.not_eq_true', Bool.not_eq_false, Bool.not_eq_false', ne_eq, Bool.and_eq_true, Bool.or_eq_true, true_eq_decide_iff, false_eq_decide_iff] at h)) <;> (try omega))
    | (exact ret_p rfl ⟨rfl, rfl⟩)
    | (refine ret_okv (by first | trivial | simp only [go_sem, detD, detDs, detP, and_self, and_true]) ?_)
    | (exact ret_gen _ _ _ rfl rfl rfl ⟨rfl, rfl⟩)
    | (simp only [Option.some.injEq, DV.tup.injEq, DV.p.injEq, List.cons.injEq, PV.int.injEq, PV.bool.injEq, PV.str.injEq, and_true, true_and])
    | rfl
    | (refine Bool.eq_iff_iff.2 ?_; simp only [decide_eq_true_eq, Bool.and_eq_true, Bool.or_eq_true, Bool.not_eq_true', decide_eq_false_iff_not, Bool.false_eq_true, beq_iff_eq, bne_iff_ne, ne_eq, false_iff, iff_false, true_iff, iff_true]; omega)
    | omega)
/-- the first texts, a text between each two -/
def joinTo (xs : List Txt) (b : Txt) : Nat → Txt
  | 0 => []
  | i + 1 => (if 0 < i then joinTo xs b i ++ b else joinTo xs b i) ++ xs.getD i []
theorem join_len {xs : List Txt} {b : Txt} {k : Nat} (hb : b.length ≤ 100) (hx : ∀ i, i < xs.length → (xs.getD i []).length ≤ k) : ∀ {i : Nat}, i ≤ xs.length → (joinTo xs b i).length ≤ i * (100 + k)
  | 0, _ => by simp [joinTo]
  | i + 1, h => by
    have h1 := join_len hb hx (i := i) (by omega)
    have h2 := hx i (by omega)
    unfold joinTo
    rw [Nat.add_mul]
    split <;> simp only [List.length_append] <;> omega
set_option maxRecDepth 100000 in
set_option maxHeartbeats 16000000 in
/-- impl.join -/
theorem k_join (xs : List Txt) (b : Txt) (k : Nat) (hb : b.length ≤ 100) (hl : xs.length ≤ 10000) (hk : k ≤ 1048576) (hx : ∀ i, i < xs.length → (xs.getD i []).length ≤ k) : Okv Try.prog 81 [slS xs, .str b] (.p (.str (joinTo xs b xs.length))) := by
  refine ok_D hmix c_impl_join (by simp) ?_
  simp only [envOf, envFrom, go_sem, reduceIte, Nat.reduceEqDiff]
  refine Dm_loop [1, 5, 8, 9, 10] (fun m ds H' => ∃ i : Nat, i ≤ xs.length ∧ m = xs.length - i ∧ ds = [.p (.str b), .p (.str (joinTo xs b i)), .p (slS xs), .p (.int .i64 xs.length), .p (.int .i64 i)] ∧ H' = []) xs.length ⟨0, by omega, by omega, rfl, rfl⟩ ?_
  rintro m ds H' ⟨i, hi, rfl, rfl, rfl⟩ -
  have hs : joinTo xs b (i + 1) = (if 0 < i then joinTo xs b i ++ b else joinTo xs b i) ++ xs.getD i [] := rfl
  have h1 := join_len hb hx hi
  have h2 : i * (100 + k) ≤ 10000 * (100 + 1048576) := Nat.mul_le_mul (by omega) (by omega)
  have h3 := hx i
  have hd : (default : Txt) = [] := rfl
  have hfin : i = xs.length → joinTo xs b xs.length = joinTo xs b i := by rintro rfl; rfl
  generalize joinTo xs b xs.length = W at *
  generalize joinTo xs b i = Z at *
  by_cases hin : i < xs.length
  · have h3 := h3 hin
    repeat' (first
      | (simp only [go_sem, reduceIte, Nat.reduceEqDiff])
      | (simp (disch := omega) only [w64, nadd1])
      | (refine Rm_need (by first | exact True.intro | omega | (simp; omega)) ?_)
      | (rw [hd])
      | (simp only [List.length_append])
      | (refine Rm_gi (by first | omega | (simp; omega)) ?_)
      | (refine Rm_gb (by first | omega | (simp; omega)) ?_)
      | (refine Rm_ga (by first | omega | (simp; omega)) _ rfl (Nat.le_of_ble_eq_true rfl) ?_)
      | (refine Rm_gm (by first | omega | (simp; omega)) _ rfl ?_)
      | (refine Rm_part _ _ rfl rfl ?_)
      | (refine Rm_puti (by first | omega | (simp; omega)) rfl ?_)
      | (refine Dm_draw [] (by simp) ?_)
      | (refine Tm_both ?_ ?_)
      | (refine Tm_fin (by simp only [hideOK, newsE]; simp []) ?_)
      | (refine Cm_split (fun h => ?_) (fun h => ?_) <;> (try (simp only [decide_eq_true_eq, decide_eq_false_iff_not] at h)) <;> (try omega))
      | (refine Gm_split (fun h => ?_) (fun h => ?_) <;> (try simp only [ne_eq, Bool.not_eq_true, Bool.not_eq_false] at h) <;> (try rw [h]) <;> (try (simp only [decide_eq_true_eq, decide_eq_false_iff_not, bne_iff_ne, beq_iff_eq, bne_eq_false_iff_eq, beq_eq_false_iff_ne, Bool.not_eq_true, Bool.not_eq_true', Bool.not_eq_false, Bool.not_eq_false', ne_eq, Bool.and_eq_true, Bool.or_eq_true, true_eq_decide_iff, false_eq_decide_iff] at h)) <;> (try omega))
      | (refine Sm_split (fun h => ?_) (fun h => ?_) <;> (try (simp only [decide_eq_true_eq, decide_eq_false_iff_not, bne_iff_ne, beq_iff_eq, bne_eq_false_iff_eq, beq_eq_false_iff_ne, Bool.not_eq_true, Bool.not_eq_true', Bool.not_eq_false, Bool.not_eq_false', ne_eq, Bool.and_eq_true, Bool.or_eq_true, true_eq_decide_iff, false_eq_decide_iff] at h)) <;> (try omega))
      | (exact ret_p rfl ⟨rfl, rfl⟩)
      | (refine ret_okv (by first | trivial | simp only [go_sem, detD, detDs, detP, and_self, and_true]) ?_)
      | (exact ret_gen _ _ _ rfl rfl rfl ⟨rfl, rfl⟩)
      | (simp only [Option.some.injEq, DV.tup.injEq, DV.p.injEq, List.cons.injEq, PV.int.injEq, PV.bool.injEq, PV.str.injEq, and_true, true_and])
      | rfl
      | (refine Bool.eq_iff_iff.2 ?_; simp only [decide_eq_true_eq, Bool.and_eq_true, Bool.or_eq_true, Bool.not_eq_true', decide_eq_false_iff_not, Bool.false_eq_true, beq_iff_eq, bne_iff_ne, ne_eq, false_iff, iff_false, true_iff, iff_true]; omega)
      | omega)
    all_goals first
      | (have hpos : 0 < i := by omega
         refine Xm_inv_n (xs.length - (i + 1)) (by omega) ⟨i + 1, by omega, rfl, ?_, rfl⟩
         rw [hs, if_pos hpos]; rfl)
      | (have hpos : ¬ 0 < i := by omega
         refine Xm_inv_n (xs.length - (i + 1)) (by omega) ⟨i + 1, by omega, rfl, ?_, rfl⟩
         rw [hs, if_neg hpos]; rfl)
  · rw [hfin (by omega)]
    repeat' (first
      | (simp only [go_sem, reduceIte, Nat.reduceEqDiff])
      | (simp (disch := omega) only [w64, w8, bytesOf_cons, tmod10, tdiv10, tn48, nsub1, nadd1, nsub, nadd, nmul, List.take_length, Int.toNat_zero, Int.reduceAdd, Int.reduceSub, Int.reduceToNat, Int.reduceMul, Nat.sub_zero, Nat.min_self])
      | (refine Rm_need (by first | exact True.intro | omega | (simp; omega)) ?_)
      | (refine Rm_gi (by first | omega | (simp; omega)) ?_)
      | (refine Rm_gb (by first | omega | (simp; omega)) ?_)
      | (refine Rm_ga (by first | omega | (simp; omega)) _ rfl (Nat.le_of_ble_eq_true rfl) ?_)
      | (refine Rm_gm (by first | omega | (simp; omega)) _ rfl ?_)
      | (refine Rm_part _ _ rfl rfl ?_)
      | (refine Rm_puti (by first | omega | (simp; omega)) rfl ?_)
      | (refine Dm_draw [] (by simp) ?_)
      | (refine Tm_both ?_ ?_)
      | (refine Tm_fin (by simp only [hideOK, newsE]; simp []) ?_)
      | (refine Cm_split (fun h => ?_) (fun h => ?_) <;> (try (simp only [decide_eq_true_eq, decide_eq_false_iff_not] at h)) <;> (try omega))
      | (refine Gm_split (fun h => ?_) (fun h => ?_) <;> (try simp only [ne_eq, Bool.not_eq_true, Bool.not_eq_false] at h) <;> (try rw [h]) <;> (try (simp only [decide_eq_true_eq, decide_eq_false_iff_not, bne_iff_ne, beq_iff_eq, bne_eq_false_iff_eq, beq_eq_false_iff_ne, Bool.not_eq_true, Bool.not_eq_true', Bool.not_eq_false, Bool.not_eq_false', ne_eq, Bool.and_eq_true, Bool.or_eq_true, true_eq_decide_iff, false_eq_decide_iff] at h)) <;> (try omega))
      | (refine Sm_split (fun h => ?_) (fun h => ?_) <;> (try (simp only [decide_eq_true_eq, decide_eq_false_iff_not, bne_iff_ne, beq_iff_eq, bne_eq_false_iff_eq, beq_eq_false_iff_ne, Bool.not_eq_true, Bool.not_eq_true', Bool.not_eq_false, Bool.not_eq_false', ne_eq, Bool.and_eq_true, Bool.or_eq_true, true_eq_decide_iff, false_eq_decide_iff] at h)) <;> (try omega))
      | (exact ret_p rfl ⟨rfl, rfl⟩)
      | (refine ret_okv (by first | trivial | simp only [go_sem, detD, detDs, detP, and_self, and_true]) ?_)
      | (exact ret_gen _ _ _ rfl rfl rfl ⟨rfl, rfl⟩)
      | (simp only [Option.some.injEq, DV.tup.injEq, DV.p.injEq, List.cons.injEq, PV.int.injEq, PV.bool.injEq, PV.str.injEq, and_true, true_and])
      | rfl
      | (refine Bool.eq_iff_iff.2 ?_; simp only [decide_eq_true_eq, Bool.and_eq_true, Bool.or_eq_true, Bool.not_eq_true', decide_eq_false_iff_not, Bool.false_eq_true, beq_iff_eq, bne_iff_ne, ne_eq, false_iff, iff_false, true_iff, iff_true]; omega)
      | omega)
def isAt : Txt := [32, 105, 115, 32, 97, 116, 32]
def reach : Txt := [44, 32, 114, 101, 97, 99, 104, 101, 115, 32]
def atW : Txt := [32, 97, 116, 32]
def andW : Txt := [32, 97, 110, 100, 32]
def endW : Txt := [101, 110, 100, 115, 32, 116, 104, 101, 114, 101, 46]
def onW : Txt := [103, 111, 101, 115, 32, 111, 110, 32, 116, 111, 32]
def comW : Txt := [44, 32]
/-- what stands before the rest of the route -/
def headT (s : Stp) : Txt := s.name ++ isAt ++ htT s.ht ++ reach ++ s.route.getD 0 [] ++ atW ++ twoT (s.mn.tdiv 60) ++ [58] ++ twoT (s.mn.tmod 60) ++ andW
def restT (xs : List Txt) : Txt := if xs.length = 1 then endW else if xs.length = 2 then onW ++ xs.getD 1 [] ++ [46] else onW ++ joinTo (xs.drop 1) comW (xs.length - 2) ++ andW ++ xs.getD (xs.length - 1) [] ++ [46]
def stT (s : Stp) : Txt := headT s ++ restT s.route
theorem pt_len {xs : List Txt} : ∀ {n i : Nat}, rtTo xs n = true → i < n → (xs.getD i []).length ≤ 5
  | 0, i, _, h => by omega
  | n + 1, i, h, hi => by
    simp only [rtTo, Bool.and_eq_true] at h
    by_cases h1 : i < n
    · exact pt_len h.1.1 h1
    · obtain rfl : i = n := by omega
      have := h.1.2
      simp only [ptB, Bool.and_eq_true, decide_eq_true_eq] at this
      omega
end Go.Proofs.Ytchekagoaidlpaa

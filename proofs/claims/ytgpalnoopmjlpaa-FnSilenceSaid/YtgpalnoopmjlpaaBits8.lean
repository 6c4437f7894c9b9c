import Derived.Test.YtgpalnoopmjlpaaBits7
namespace Go.Proofs.Ytgpalnoopmjlpaa
open Go.Dv Go.Dv.EvL
attribute [local irreducible] Ok Rm Dm Om Sm Xm Cm Gm Hm Tm

def flipL (s : List UInt8) (i : Nat) : List UInt8 := s.set i (97 - s.getD i default)
theorem flip_len {s : List UInt8} {i : Nat} : (flipL s i).length = s.length := by simp [flipL]
theorem flip_bits {s : List UInt8} {i : Nat} (hb : s.all bitP = true) (hi : i < s.length) : (flipL s i).all bitP = true := by
  rw [List.all_eq_true]
  intro x hx
  rcases List.mem_or_eq_of_mem_set hx with h | h
  · exact List.all_eq_true.1 hb x h
  · have h2 := List.all_eq_true.1 hb _ (getD_mem (d := default) hi)
    subst h
    unfold bitP at h2
    simp only [Bool.or_eq_true, decide_eq_true_eq] at h2
    rcases h2 with h2 | h2 <;> rw [h2] <;> decide
theorem sub97 {c : UInt8} (h : bitP c = true) : IntKind.wrap .u8 (97 - (c.toNat : Int)) = ((97 - c).toNat : Int) := by
  unfold bitP at h
  simp only [Bool.or_eq_true, decide_eq_true_eq] at h
  rcases h with h | h <;> subst h <;> decide
/-- what impl.RepairBit finds among the last k bits -/
def repK (s : List UInt8) : Nat → List UInt8 × Int × Bool
  | 0 => ([], 0, false)
  | k + 1 => if sndB (flipL s (s.length - (k + 1))) = true then (flipL s (s.length - (k + 1)), ((s.length - (k + 1) : Nat) : Int), true) else repK s k
def repB (s : List UInt8) : List UInt8 × Int × Bool := if sndB s = true then (s, -1, true) else repK s s.length
set_option maxRecDepth 100000 in
set_option maxHeartbeats 16000000 in
/-- impl.flip -/
theorem k_flip (s : List UInt8) (i : Nat) (hb : s.all bitP = true) (hi : i < s.length) (hl : s.length ≤ 900) : Okv Try.prog 101 [.str s, .int .i64 i] (.p (.str (flipL s i))) := by
  refine ok_D hmix c_impl_flip (by simp) ?_
  have h1 := List.all_eq_true.1 hb _ (getD_mem (d := default) hi)
  have h2 := sub97 h1
  have e : s.set i (97 - s.getD i default) = flipL s i := rfl
  have hfl := flip_len (s := s) (i := i)
  have e0 : s.getD i 0 = s.getD i default := rfl
  simp only [envOf, envFrom, go_sem, reduceIte, Nat.reduceEqDiff, Nat.reduceAdd]
  repeat' (first
    | (simp only [go_sem, reduceIte, Nat.reduceEqDiff])
    | (simp (disch := omega) only [w64, w8, bytesOf_cons, tmod10, tdiv10, tn48, nsub1, nadd1, nsub, nadd, nmul, List.take_length, Int.toNat_zero, Int.reduceAdd, Int.reduceSub, Int.reduceToNat, Int.reduceMul, Nat.sub_zero, Nat.min_self])
    | (refine Rm_need (by first | exact True.intro | omega | (simp; omega)) ?_)
    | (refine Rm_putb (97 - s.getD i default) (by omega) h2 rfl ?_)
    | (refine Rm_gi (by first | omega | (simp; omega)) ?_)
    | (refine Rm_gb (by first | omega | (simp; omega)) ?_)
    | (refine Rm_ga (by first | omega | (simp; omega)) _ rfl (Nat.le_of_ble_eq_true rfl) ?_)
    | (refine Rm_gm (by first | omega | (simp; omega)) _ rfl ?_)
    | (refine Rm_part _ _ rfl rfl ?_)
    | (refine Rm_puti (by first | omega | (simp; omega)) rfl ?_)
    | (refine Dm_draw [] (by simp) ?_)
    | (refine Tm_both ?_ ?_)
    | (refine Tm_fin (by simp only [hideOK, newsE]; simp []) ?_)
    | (refine Cm_split (fun h => ?_) (fun h => ?_) <;> (try (simp only [decide_eq_true_eq, decide_eq_false_iff_not, bne_iff_ne, beq_iff_eq, bne_eq_false_iff_eq, beq_eq_false_iff_ne, Bool.not_eq_true, Bool.not_eq_true', Bool.not_eq_false, Bool.not_eq_false', ne_eq, Bool.and_eq_true, Bool.or_eq_true, true_eq_decide_iff, false_eq_decide_iff] at h)) <;> (try omega))
    | (refine Gm_split (fun h => ?_) (fun h => ?_) <;> (try simp only [ne_eq, Bool.not_eq_true, Bool.not_eq_false] at h) <;> (try rw [h]) <;> (try (simp only [decide_eq_true_eq, decide_eq_false_iff_not, bne_iff_ne, beq_iff_eq, bne_eq_false_iff_eq, beq_eq_false_iff_ne, Bool.not_eq_true, Bool.not_eq_true', Bool.not_eq_false, Bool.not_eq_false', ne_eq, Bool.and_eq_true, Bool.or_eq_true, true_eq_decide_iff, false_eq_decide_iff] at h)) <;> (try omega))
    | (refine Sm_split (fun h => ?_) (fun h => ?_) <;> (try (simp only [decide_eq_true_eq, decide_eq_false_iff_not, bne_iff_ne, beq_iff_eq, bne_eq_false_iff_eq, beq_eq_false_iff_ne, Bool.not_eq_true, Bool.not_eq_true', Bool.not_eq_false, Bool.not_eq_false', ne_eq, Bool.and_eq_true, Bool.or_eq_true, true_eq_decide_iff, false_eq_decide_iff] at h)) <;> (try omega))
    | (exact ret_p rfl ⟨rfl, rfl⟩)
    | (refine ret_okv (by first | trivial | simp only [go_sem, detD, detDs, detP, and_self, and_true]) ?_)
    | (exact ret_gen _ _ _ rfl rfl rfl ⟨rfl, rfl⟩)
    | (simp only [Option.some.injEq, DV.p.injEq, PV.str.injEq])
    | rfl
    | (refine Bool.eq_iff_iff.2 ?_; simp only [decide_eq_true_eq, Bool.and_eq_true, Bool.or_eq_true, Bool.not_eq_true', decide_eq_false_iff_not, Bool.false_eq_true, beq_iff_eq, bne_iff_ne, ne_eq, false_iff, iff_false, true_iff, iff_true]; omega)
    | omega)
  rw [e]
  exact List.take_of_length_le (by omega)
set_option maxRecDepth 100000 in
set_option maxHeartbeats 16000000 in
/-- impl.IsBits -/
theorem k_IsBits (s : List UInt8) (hb : s.all bitP = true) (hl : s.length ≤ 64) : Okv Try.prog 106 [.str s] (.p (.bool true)) := by
  refine ok_D hmix c_impl_IsBits (by simp) ?_
  simp only [envOf, envFrom, go_sem, reduceIte, Nat.reduceEqDiff]
  repeat' (first
    | (simp only [go_sem])
    | (simp (disch := omega) only [w64, w8, bytesOf_cons, tmod10, tdiv10, tn48, nsub1, nadd1, nsub, nadd, nmul, List.take_length, Int.toNat_zero, Int.reduceAdd, Int.reduceSub, Int.reduceToNat, Int.reduceMul, Nat.sub_zero, Nat.min_self])
    | (refine Rm_need (by first | exact True.intro | omega | (simp; omega)) ?_)
    | (refine Rm_gi (by first | omega | (simp; omega)) ?_)
    | (refine Rm_gb (by first | omega | (simp; omega)) ?_)
    | (refine Rm_ga (by first | omega | (simp; omega)) _ rfl (Nat.le_of_ble_eq_true rfl) ?_)
    | (refine Rm_gm (by first | omega | (simp; omega)) _ rfl ?_)
    | (refine Rm_part _ _ rfl rfl ?_)
    | (refine Rm_puti (by first | omega | (simp; omega)) rfl ?_)
    | (refine Dm_draw [] (by simp) ?_)
    | (refine Tm_both ?_ ?_)
    | (refine Tm_fin (by simp only [hideOK, newsE]; simp []) ?_)
    | (refine Cm_split (fun h => ?_) (fun h => ?_) <;> (try (simp only [decide_eq_true_eq, decide_eq_false_iff_not] at h)) <;> (try omega))
    | (refine Gm_split (fun h => ?_) (fun h => ?_) <;> (try simp only [ne_eq, Bool.not_eq_true, Bool.not_eq_false] at h) <;> (try rw [h]) <;> (try (simp only [decide_eq_true_eq, decide_eq_false_iff_not, bne_iff_ne, beq_iff_eq, bne_eq_false_iff_eq, beq_eq_false_iff_ne, Bool.not_eq_true, Bool.not_eq_true', Bool.not_eq_false, Bool.not_eq_false', ne_eq, Bool.and_eq_true, Bool.or_eq_true, true_eq_decide_iff, false_eq_decide_iff] at h)) <;> (try omega))
    | (refine Sm_split (fun h => ?_) (fun h => ?_) <;> (try (simp only [decide_eq_true_eq, decide_eq_false_iff_not, bne_iff_ne, beq_iff_eq, bne_eq_false_iff_eq, beq_eq_false_iff_ne, Bool.not_eq_true, Bool.not_eq_true', Bool.not_eq_false, Bool.not_eq_false', ne_eq, Bool.and_eq_true, Bool.or_eq_true, true_eq_decide_iff, false_eq_decide_iff] at h)) <;> (try omega))
    | (exact ret_p rfl ⟨rfl, rfl⟩)
    | (refine ret_okv (by first | trivial | simp only [go_sem, detD, detDs, detP, and_self, and_true]) ?_)
    | (exact ret_gen _ _ _ rfl rfl rfl ⟨rfl, rfl⟩)
    | (simp only [Option.some.injEq, DV.tup.injEq, DV.p.injEq, List.cons.injEq, PV.int.injEq, PV.bool.injEq, PV.str.injEq, and_true, true_and])
    | rfl
    | (refine Bool.eq_iff_iff.2 ?_; simp only [decide_eq_true_eq, Bool.and_eq_true, Bool.or_eq_true, Bool.not_eq_true', decide_eq_false_iff_not, Bool.false_eq_true, beq_iff_eq, bne_iff_ne, ne_eq, false_iff, iff_false, true_iff, iff_true]; omega)
    | omega)
  refine Dm_loop [0, 3] (fun m ds H' => ∃ i : Nat, i ≤ s.length ∧ m = s.length - i ∧ ds = [.p (.str s), .p (.int .i64 i)] ∧ H' = []) s.length ⟨0, by omega, by omega, rfl, rfl⟩ ?_
  rintro m ds H' ⟨i, hi, rfl, rfl, rfl⟩ -
  have h1 := fun h : i < s.length => bits_at hb h
  have e0 : s.getD i 0 = s.getD i default := rfl
  repeat' (first
    | (simp only [go_sem, reduceIte, Nat.reduceEqDiff, Nat.reduceBEq])
    | (simp (disch := omega) only [w64, nadd1])
    | (refine Rm_need (by first | exact True.intro | omega | (simp; omega)) ?_)
    | (rw [e0])
    | (refine Rm_gi (by first | omega | (simp; omega)) ?_)
    | (refine Rm_gb (by first | omega | (simp; omega)) ?_)
    | (refine Rm_ga (by first | omega | (simp; omega)) _ rfl (Nat.le_of_ble_eq_true rfl) ?_)
    | (refine Rm_gm (by first | omega | (simp; omega)) _ rfl ?_)
    | (refine Rm_part _ _ rfl rfl ?_)
    | (refine Rm_puti (by first | omega | (simp; omega)) rfl ?_)
    | (refine Dm_draw [] (by simp) ?_)
    | (refine Tm_both ?_ ?_)
    | (refine Tm_fin (by simp only [hideOK, newsE]; simp []) ?_)
    | (refine Cm_split (fun h => ?_) (fun h => ?_) <;> (try (simp only [decide_eq_true_eq, decide_eq_false_iff_not, bne_iff_ne, bne_eq_false_iff_eq, ne_eq] at h)) <;> (try omega))
    | (refine Gm_split (fun h => ?_) (fun h => ?_) <;> (try simp only [ne_eq, Bool.not_eq_true, Bool.not_eq_false] at h) <;> (try rw [h]) <;> (try (simp only [decide_eq_true_eq, decide_eq_false_iff_not, bne_iff_ne, beq_iff_eq, bne_eq_false_iff_eq, beq_eq_false_iff_ne, Bool.not_eq_true, Bool.not_eq_true', Bool.not_eq_false, Bool.not_eq_false', ne_eq, Bool.and_eq_true, Bool.or_eq_true, true_eq_decide_iff, false_eq_decide_iff] at h)) <;> (try omega))
    | (refine Sm_split (fun h => ?_) (fun h => ?_) <;> (try (simp only [bne_iff_ne, bne_eq_false_iff_eq, ne_eq] at h)) <;> (try omega))
    | (exact ret_p rfl ⟨rfl, rfl⟩)
    | (refine ret_okv (by first | trivial | simp only [go_sem, detD, detDs, detP, and_self, and_true]) ?_)
    | (exact ret_gen _ _ _ rfl rfl rfl ⟨rfl, rfl⟩)
    | (simp only [Option.some.injEq, DV.tup.injEq, DV.p.injEq, List.cons.injEq, PV.int.injEq, PV.bool.injEq, PV.str.injEq, and_true, true_and])
    | rfl
    | (refine Bool.eq_iff_iff.2 ?_; simp only [decide_eq_true_eq, Bool.and_eq_true, Bool.or_eq_true, Bool.not_eq_true', decide_eq_false_iff_not, Bool.false_eq_true, beq_iff_eq, bne_iff_ne, ne_eq, false_iff, iff_false, true_iff, iff_true]; omega)
    | omega)
  all_goals first
    | (refine Xm_inv_n (s.length - (i + 1)) (by omega) ⟨i + 1, by omega, rfl, rfl, rfl⟩; done)
    | skip
set_option maxRecDepth 100000 in
set_option maxHeartbeats 16000000 in
/-- impl.isCarrier -/
theorem k_isCarrier (s : List UInt8) (hb : s.all bitP = true) (h1 : 12 ≤ s.length) (hl : s.length ≤ 64) : Okv Try.prog 99 [.str s] (.p (.bool true)) := by
  refine ok_D hmix c_impl_isCarrier (by simp) ?_
  have h2 := k_IsBits s hb hl
  simp only [envOf, envFrom, go_sem, reduceIte, Nat.reduceEqDiff, Nat.reduceBEq]
  repeat' (first
    | (simp only [go_sem, reduceIte, Nat.reduceEqDiff, Nat.reduceBEq])
    | (simp (disch := omega) only [w64, w8, bytesOf_cons, tmod10, tdiv10, tn48, nsub1, nadd1, nsub, nadd, nmul, List.take_length, Int.toNat_zero, Int.reduceAdd, Int.reduceSub, Int.reduceToNat, Int.reduceMul, Nat.sub_zero, Nat.min_self])
    | (refine Rm_need (by first | exact True.intro | omega | (simp; omega)) ?_)
    | (refine Rm_w rfl (h2) (by trivial) ?_)
    | (refine Rm_w ?_ (h2) (by trivial) ?_; · (simp [viewOfs, viewOf, List.take_of_length_le, cutL]; done))
    | (refine Rm_gi (by first | omega | (simp; omega)) ?_)
    | (refine Rm_gb (by first | omega | (simp; omega)) ?_)
    | (refine Rm_ga (by first | omega | (simp; omega)) _ rfl (Nat.le_of_ble_eq_true rfl) ?_)
    | (refine Rm_gm (by first | omega | (simp; omega)) _ rfl ?_)
    | (refine Rm_part _ _ rfl rfl ?_)
    | (refine Rm_puti (by first | omega | (simp; omega)) rfl ?_)
    | (refine Dm_draw [] (by simp) ?_)
    | (refine Tm_both ?_ ?_)
    | (refine Tm_fin (by simp only [hideOK, newsE]; simp []) ?_)
    | (refine Cm_split (fun h => ?_) (fun h => ?_) <;> (try (simp only [decide_eq_true_eq, decide_eq_false_iff_not, bne_iff_ne, beq_iff_eq, bne_eq_false_iff_eq, beq_eq_false_iff_ne, Bool.not_eq_true, Bool.not_eq_true', Bool.not_eq_false, Bool.not_eq_false', ne_eq, Bool.and_eq_true, Bool.or_eq_true, true_eq_decide_iff, false_eq_decide_iff] at h)) <;> (try omega))
    | (refine Gm_split (fun h => ?_) (fun h => ?_) <;> (try simp only [ne_eq, Bool.not_eq_true, Bool.not_eq_false] at h) <;> (try rw [h]) <;> (try (simp only [decide_eq_true_eq, decide_eq_false_iff_not, bne_iff_ne, beq_iff_eq, bne_eq_false_iff_eq, beq_eq_false_iff_ne, Bool.not_eq_true, Bool.not_eq_true', Bool.not_eq_false, Bool.not_eq_false', ne_eq, Bool.and_eq_true, Bool.or_eq_true, true_eq_decide_iff, false_eq_decide_iff] at h)) <;> (try omega))
    | (refine Sm_split (fun h => ?_) (fun h => ?_) <;> (try (simp only [decide_eq_true_eq, decide_eq_false_iff_not, bne_iff_ne, beq_iff_eq, bne_eq_false_iff_eq, beq_eq_false_iff_ne, Bool.not_eq_true, Bool.not_eq_true', Bool.not_eq_false, Bool.not_eq_false', ne_eq, Bool.and_eq_true, Bool.or_eq_true, true_eq_decide_iff, false_eq_decide_iff] at h)) <;> (try omega))
    | (exact ret_p rfl ⟨rfl, rfl⟩)
    | (refine ret_okv (by first | trivial | simp only [go_sem, detD, detDs, detP, and_self, and_true]) ?_)
    | (exact ret_gen _ _ _ rfl rfl rfl ⟨rfl, rfl⟩)
    | (simp only [Option.some.injEq, DV.p.injEq, PV.bool.injEq])
    | rfl
    | (refine Bool.eq_iff_iff.2 ?_; simp only [decide_eq_true_eq, iff_true]; omega)
    | omega)
  all_goals skip
set_option maxRecDepth 100000 in
set_option maxHeartbeats 16000000 in
/-- impl.RepairBit -/
theorem k_RepairBit (s : List UInt8) (hb : s.all bitP = true) (h1 : 12 ≤ s.length) (hl : s.length ≤ 64) : Okv Try.prog 90 [.str s] (.tup [.p (.str (repB s).1), .p (.int .i64 (repB s).2.1), .p (.bool (repB s).2.2)]) := by
  refine ok_D hmix c_impl_RepairBit (by simp) ?_
  have h2 := k_isCarrier s hb h1 hl
  have h3 := k_isSound s hb h1 (by omega)
  have hs : repB s = if sndB s = true then (s, -1, true) else repK s s.length := rfl
  cases hss : sndB s
  · rw [hss] at h3 hs
    rw [if_neg (by decide)] at hs
    rw [hs]
    simp only [envOf, envFrom, go_sem, reduceIte, Nat.reduceEqDiff]
    repeat' (first
      | (simp only [go_sem, reduceIte, Nat.reduceEqDiff])
      | (simp (disch := omega) only [w64, w8, bytesOf_cons, tmod10, tdiv10, tn48, nsub1, nadd1, nsub, nadd, nmul, List.take_length, Int.toNat_zero, Int.reduceAdd, Int.reduceSub, Int.reduceToNat, Int.reduceMul, Nat.sub_zero, Nat.min_self])
      | (refine Rm_need (by first | exact True.intro | omega | (simp; omega)) ?_)
      | (refine Rm_w rfl (h2) (by trivial) ?_)
      | (refine Rm_w ?_ (h2) (by trivial) ?_; · (simp [viewOfs, viewOf, List.take_of_length_le, cutL]; done))
      | (refine Rm_w rfl (h3) (by trivial) ?_)
      | (refine Rm_w ?_ (h3) (by trivial) ?_; · (simp [viewOfs, viewOf, List.take_of_length_le, cutL]; done))
      | (refine Rm_gi (by first | omega | (simp; omega)) ?_)
      | (refine Rm_gb (by first | omega | (simp; omega)) ?_)
      | (refine Rm_ga (by first | omega | (simp; omega)) _ rfl (Nat.le_of_ble_eq_true rfl) ?_)
      | (refine Rm_gm (by first | omega | (simp; omega)) _ rfl ?_)
      | (refine Rm_part _ _ rfl rfl ?_)
      | (refine Rm_puti (by first | omega | (simp; omega)) rfl ?_)
      | (refine Dm_draw [] (by simp) ?_)
      | (refine Tm_both ?_ ?_)
      | (refine Tm_fin (by simp only [hideOK, newsE]; simp []) ?_)
      | (refine Cm_split (fun h => ?_) (fun h => ?_) <;> (try (simp only [decide_eq_true_eq, decide_eq_false_iff_not, bne_iff_ne, beq_iff_eq, bne_eq_false_iff_eq, beq_eq_false_iff_ne, Bool.not_eq_true, Bool.not_eq_true', Bool.not_eq_false, Bool.not_eq_false', ne_eq, Bool.and_eq_true, Bool.or_eq_true, true_eq_decide_iff, false_eq_decide_iff] at h)) <;> (try omega))
      | (refine Gm_split (fun h => ?_) (fun h => ?_) <;> (try simp only [ne_eq, Bool.not_eq_true, Bool.not_eq_false] at h) <;> (try rw [h]) <;> (try (simp only [decide_eq_true_eq, decide_eq_false_iff_not, bne_iff_ne, beq_iff_eq, bne_eq_false_iff_eq, beq_eq_false_iff_ne, Bool.not_eq_true, Bool.not_eq_true', Bool.not_eq_false, Bool.not_eq_false', ne_eq, Bool.and_eq_true, Bool.or_eq_true, true_eq_decide_iff, false_eq_decide_iff] at h)) <;> (try omega))
      | (refine Sm_split (fun h => ?_) (fun h => ?_) <;> (try (simp only [decide_eq_true_eq, decide_eq_false_iff_not, bne_iff_ne, beq_iff_eq, bne_eq_false_iff_eq, beq_eq_false_iff_ne, Bool.not_eq_true, Bool.not_eq_true', Bool.not_eq_false, Bool.not_eq_false', ne_eq, Bool.and_eq_true, Bool.or_eq_true, true_eq_decide_iff, false_eq_decide_iff] at h)) <;> (try omega))
      | (exact ret_p rfl ⟨rfl, rfl⟩)
      | (refine ret_okv (by first | trivial | simp only [go_sem, detD, detDs, detP, and_self, and_true]) ?_)
      | (exact ret_gen _ _ _ rfl rfl rfl ⟨rfl, rfl⟩)
      | (simp only [Option.some.injEq, DV.tup.injEq, DV.p.injEq, List.cons.injEq, PV.int.injEq, PV.bool.injEq, PV.str.injEq, and_true, true_and])
      | rfl
      | (refine Bool.eq_iff_iff.2 ?_; simp only [decide_eq_true_eq, Bool.and_eq_true, Bool.or_eq_true, Bool.not_eq_true', decide_eq_false_iff_not, Bool.false_eq_true, beq_iff_eq, bne_iff_ne, ne_eq, false_iff, iff_false, true_iff, iff_true]; omega)
      | omega)
    refine Dm_loop [0, 13] (fun m ds H' => ∃ i : Nat, i ≤ s.length ∧ m = s.length - i ∧ repK s s.length = repK s (s.length - i) ∧ ds = [.p (.str s), .ptr 0 0 0] ∧ H' = [.iter s i]) s.length ⟨0, by omega, by omega, rfl, rfl, rfl⟩ ?_
    rintro m ds H' ⟨i, hi, rfl, he, rfl, rfl⟩ -
    rcases Nat.lt_or_ge i s.length with hlt | hge
    · have hasc := bits_ascii hb hlt
      have h4 := k_flip s i hb hlt (by omega)
      have h5 := k_isSound (flipL s i) (flip_bits hb hlt) (by rw [flip_len]; omega) (by rw [flip_len]; omega)
      obtain ⟨k, hk⟩ : ∃ k, s.length - i = k + 1 := ⟨s.length - i - 1, by omega⟩
      have hr : repK s (k + 1) = if sndB (flipL s i) = true then (flipL s i, (i : Int), true) else repK s k := by
        rw [repK, show s.length - (k + 1) = i from by omega]
      rw [hk] at he ⊢
      rw [hr] at he
      cases hf : sndB (flipL s i)
      · rw [hf] at h5 he
        rw [if_neg (by decide)] at he
        repeat' (first
          | (simp only [go_sem, reduceIte, Nat.reduceEqDiff])
          | (simp (disch := omega) only [w64, w8, bytesOf_cons, tmod10, tdiv10, tn48, nsub1, nadd1, nsub, nadd, nmul, List.take_length, Int.toNat_zero, Int.reduceAdd, Int.reduceSub, Int.reduceToNat, Int.reduceMul, Nat.sub_zero, Nat.min_self])
          | (refine Rm_need (by first | exact True.intro | omega | (simp; omega)) ?_)
          | (refine Rm_nxt rfl hlt hasc ?_)
          | (refine Rm_w rfl (h4) (by trivial) ?_)
          | (refine Rm_w ?_ (h4) (by trivial) ?_; · (simp [viewOfs, viewOf, List.take_of_length_le, cutL]; done))
          | (refine Rm_w rfl (h5) (by trivial) ?_)
          | (refine Rm_w ?_ (h5) (by trivial) ?_; · (simp [viewOfs, viewOf, List.take_of_length_le, cutL]; done))
          | (refine Rm_gi (by first | omega | (simp; omega)) ?_)
          | (refine Rm_gb (by first | omega | (simp; omega)) ?_)
          | (refine Rm_ga (by first | omega | (simp; omega)) _ rfl (Nat.le_of_ble_eq_true rfl) ?_)
          | (refine Rm_gm (by first | omega | (simp; omega)) _ rfl ?_)
          | (refine Rm_part _ _ rfl rfl ?_)
          | (refine Rm_puti (by first | omega | (simp; omega)) rfl ?_)
          | (refine Dm_draw [] (by simp) ?_)
          | (refine Tm_both ?_ ?_)
          | (refine Tm_fin (by simp only [hideOK, newsE]; simp []) ?_)
          | (refine Cm_split (fun h => ?_) (fun h => ?_) <;> (try (simp only [decide_eq_true_eq, decide_eq_false_iff_not, bne_iff_ne, beq_iff_eq, bne_eq_false_iff_eq, beq_eq_false_iff_ne, Bool.not_eq_true, Bool.not_eq_true', Bool.not_eq_false, Bool.not_eq_false', ne_eq, Bool.and_eq_true, Bool.or_eq_true, true_eq_decide_iff, false_eq_decide_iff] at h)) <;> (try omega))
          | (refine Gm_split (fun h => ?_) (fun h => ?_) <;> (try simp only [ne_eq, Bool.not_eq_true, Bool.not_eq_false] at h) <;> (try rw [h]) <;> (try (simp only [decide_eq_true_eq, decide_eq_false_iff_not, bne_iff_ne, beq_iff_eq, bne_eq_false_iff_eq, beq_eq_false_iff_ne, Bool.not_eq_true, Bool.not_eq_true', Bool.not_eq_false, Bool.not_eq_false', ne_eq, Bool.and_eq_true, Bool.or_eq_true, true_eq_decide_iff, false_eq_decide_iff] at h)) <;> (try omega))
          | (refine Sm_split (fun h => ?_) (fun h => ?_) <;> (try (simp only [decide_eq_true_eq, decide_eq_false_iff_not, bne_iff_ne, beq_iff_eq, bne_eq_false_iff_eq, beq_eq_false_iff_ne, Bool.not_eq_true, Bool.not_eq_true', Bool.not_eq_false, Bool.not_eq_false', ne_eq, Bool.and_eq_true, Bool.or_eq_true, true_eq_decide_iff, false_eq_decide_iff] at h)) <;> (try omega))
          | (exact ret_p rfl ⟨rfl, rfl⟩)
          | (refine ret_okv (by first | trivial | simp only [go_sem, detD, detDs, detP, and_self, and_true]) ?_)
          | (exact ret_gen _ _ _ rfl rfl rfl ⟨rfl, rfl⟩)
          | (simp only [Option.some.injEq, DV.tup.injEq, DV.p.injEq, List.cons.injEq, PV.int.injEq, PV.bool.injEq, PV.str.injEq, and_true, true_and])
          | rfl
          | (refine Bool.eq_iff_iff.2 ?_; simp only [decide_eq_true_eq, Bool.and_eq_true, Bool.or_eq_true, Bool.not_eq_true', decide_eq_false_iff_not, Bool.false_eq_true, beq_iff_eq, bne_iff_ne, ne_eq, false_iff, iff_false, true_iff, iff_true]; omega)
          | omega)
        refine Xm_inv_n (s.length - (i + 1)) (by omega) ⟨i + 1, by omega, rfl, ?_, rfl, rfl⟩
        rw [he, show s.length - (i + 1) = k from by omega]
      · rw [hf] at h5 he
        rw [if_pos rfl] at he
        rw [he]
        repeat' (first
          | (simp only [go_sem, reduceIte, Nat.reduceEqDiff])
          | (simp (disch := omega) only [w64, w8, bytesOf_cons, tmod10, tdiv10, tn48, nsub1, nadd1, nsub, nadd, nmul, List.take_length, Int.toNat_zero, Int.reduceAdd, Int.reduceSub, Int.reduceToNat, Int.reduceMul, Nat.sub_zero, Nat.min_self])
          | (refine Rm_need (by first | exact True.intro | omega | (simp; omega)) ?_)
          | (refine Rm_nxt rfl hlt hasc ?_)
          | (refine Rm_w rfl (h4) (by trivial) ?_)
          | (refine Rm_w ?_ (h4) (by trivial) ?_; · (simp [viewOfs, viewOf, List.take_of_length_le, cutL]; done))
          | (refine Rm_w rfl (h5) (by trivial) ?_)
          | (refine Rm_w ?_ (h5) (by trivial) ?_; · (simp [viewOfs, viewOf, List.take_of_length_le, cutL]; done))
          | (refine Rm_gi (by first | omega | (simp; omega)) ?_)
          | (refine Rm_gb (by first | omega | (simp; omega)) ?_)
          | (refine Rm_ga (by first | omega | (simp; omega)) _ rfl (Nat.le_of_ble_eq_true rfl) ?_)
          | (refine Rm_gm (by first | omega | (simp; omega)) _ rfl ?_)
          | (refine Rm_part _ _ rfl rfl ?_)
          | (refine Rm_puti (by first | omega | (simp; omega)) rfl ?_)
          | (refine Dm_draw [] (by simp) ?_)
          | (refine Tm_both ?_ ?_)
          | (refine Tm_fin (by simp only [hideOK, newsE]; simp []) ?_)
          | (refine Cm_split (fun h => ?_) (fun h => ?_) <;> (try (simp only [decide_eq_true_eq, decide_eq_false_iff_not, bne_iff_ne, beq_iff_eq, bne_eq_false_iff_eq, beq_eq_false_iff_ne, Bool.not_eq_true, Bool.not_eq_true', Bool.not_eq_false, Bool.not_eq_false', ne_eq, Bool.and_eq_true, Bool.or_eq_true, true_eq_decide_iff, false_eq_decide_iff] at h)) <;> (try omega))
          | (refine Gm_split (fun h => ?_) (fun h => ?_) <;> (try simp only [ne_eq, Bool.not_eq_true, Bool.not_eq_false] at h) <;> (try rw [h]) <;> (try (simp only [decide_eq_true_eq, decide_eq_false_iff_not, bne_iff_ne, beq_iff_eq, bne_eq_false_iff_eq, beq_eq_false_iff_ne, Bool.not_eq_true, Bool.not_eq_true', Bool.not_eq_false, Bool.not_eq_false', ne_eq, Bool.and_eq_true, Bool.or_eq_true, true_eq_decide_iff, false_eq_decide_iff] at h)) <;> (try omega))
          | (refine Sm_split (fun h => ?_) (fun h => ?_) <;> (try (simp only [decide_eq_true_eq, decide_eq_false_iff_not, bne_iff_ne, beq_iff_eq, bne_eq_false_iff_eq, beq_eq_false_iff_ne, Bool.not_eq_true, Bool.not_eq_true', Bool.not_eq_false, Bool.not_eq_false', ne_eq, Bool.and_eq_true, Bool.or_eq_true, true_eq_decide_iff, false_eq_decide_iff] at h)) <;> (try omega))
          | (exact ret_p rfl ⟨rfl, rfl⟩)
          | (refine ret_okv (by first | trivial | simp only [go_sem, detD, detDs, detP, and_self, and_true]) ?_)
          | (exact ret_gen _ _ _ rfl rfl rfl ⟨rfl, rfl⟩)
          | (simp only [Option.some.injEq, DV.tup.injEq, DV.p.injEq, List.cons.injEq, PV.int.injEq, PV.bool.injEq, PV.str.injEq, and_true, true_and])
          | rfl
          | (refine Bool.eq_iff_iff.2 ?_; simp only [decide_eq_true_eq, Bool.and_eq_true, Bool.or_eq_true, Bool.not_eq_true', decide_eq_false_iff_not, Bool.false_eq_true, beq_iff_eq, bne_iff_ne, ne_eq, false_iff, iff_false, true_iff, iff_true]; omega)
          | omega)
        all_goals skip
    · obtain rfl : i = s.length := by omega
      rw [Nat.sub_self, repK] at he
      rw [he]
      repeat' (first
        | (simp only [go_sem, reduceIte, Nat.reduceEqDiff])
        | (simp (disch := omega) only [w64, w8, bytesOf_cons, tmod10, tdiv10, tn48, nsub1, nadd1, nsub, nadd, nmul, List.take_length, Int.toNat_zero, Int.reduceAdd, Int.reduceSub, Int.reduceToNat, Int.reduceMul, Nat.sub_zero, Nat.min_self])
        | (refine Rm_need (by first | exact True.intro | omega | (simp; omega)) ?_)
        | (refine Rm_nxt_end rfl hge ?_)
        | (refine Rm_gi (by first | omega | (simp; omega)) ?_)
        | (refine Rm_gb (by first | omega | (simp; omega)) ?_)
        | (refine Rm_ga (by first | omega | (simp; omega)) _ rfl (Nat.le_of_ble_eq_true rfl) ?_)
        | (refine Rm_gm (by first | omega | (simp; omega)) _ rfl ?_)
        | (refine Rm_part _ _ rfl rfl ?_)
        | (refine Rm_puti (by first | omega | (simp; omega)) rfl ?_)
        | (refine Dm_draw [] (by simp) ?_)
        | (refine Tm_both ?_ ?_)
        | (refine Tm_fin (by simp only [hideOK, newsE]; simp []) ?_)
        | (refine Cm_split (fun h => ?_) (fun h => ?_) <;> (try (simp only [decide_eq_true_eq, decide_eq_false_iff_not, bne_iff_ne, beq_iff_eq, bne_eq_false_iff_eq, beq_eq_false_iff_ne, Bool.not_eq_true, Bool.not_eq_true', Bool.not_eq_false, Bool.not_eq_false', ne_eq, Bool.and_eq_true, Bool.or_eq_true, true_eq_decide_iff, false_eq_decide_iff] at h)) <;> (try omega))
        | (refine Gm_split (fun h => ?_) (fun h => ?_) <;> (try simp only [ne_eq, Bool.not_eq_true, Bool.not_eq_false] at h) <;> (try rw [h]) <;> (try (simp only [decide_eq_true_eq, decide_eq_false_iff_not, bne_iff_ne, beq_iff_eq, bne_eq_false_iff_eq, beq_eq_false_iff_ne, Bool.not_eq_true, Bool.not_eq_true', Bool.not_eq_false, Bool.not_eq_false', ne_eq, Bool.and_eq_true, Bool.or_eq_true, true_eq_decide_iff, false_eq_decide_iff] at h)) <;> (try omega))
        | (refine Sm_split (fun h => ?_) (fun h => ?_) <;> (try (simp only [decide_eq_true_eq, decide_eq_false_iff_not, bne_iff_ne, beq_iff_eq, bne_eq_false_iff_eq, beq_eq_false_iff_ne, Bool.not_eq_true, Bool.not_eq_true', Bool.not_eq_false, Bool.not_eq_false', ne_eq, Bool.and_eq_true, Bool.or_eq_true, true_eq_decide_iff, false_eq_decide_iff] at h)) <;> (try omega))
        | (exact ret_p rfl ⟨rfl, rfl⟩)
        | (refine ret_okv (by first | trivial | simp only [go_sem, detD, detDs, detP, and_self, and_true]) ?_)
        | (exact ret_gen _ _ _ rfl rfl rfl ⟨rfl, rfl⟩)
        | (simp only [Option.some.injEq, DV.tup.injEq, DV.p.injEq, List.cons.injEq, PV.int.injEq, PV.bool.injEq, PV.str.injEq, and_true, true_and])
        | rfl
        | (refine Bool.eq_iff_iff.2 ?_; simp only [decide_eq_true_eq, Bool.and_eq_true, Bool.or_eq_true, Bool.not_eq_true', decide_eq_false_iff_not, Bool.false_eq_true, beq_iff_eq, bne_iff_ne, ne_eq, false_iff, iff_false, true_iff, iff_true]; omega)
        | omega)
      all_goals skip
  · rw [hss] at h3 hs
    rw [if_pos rfl] at hs
    rw [hs]
    simp only [envOf, envFrom, go_sem, reduceIte, Nat.reduceEqDiff]
    repeat' (first
      | (simp only [go_sem, reduceIte, Nat.reduceEqDiff])
      | (simp (disch := omega) only [w64, w8, bytesOf_cons, tmod10, tdiv10, tn48, nsub1, nadd1, nsub, nadd, nmul, List.take_length, Int.toNat_zero, Int.reduceAdd, Int.reduceSub, Int.reduceToNat, Int.reduceMul, Nat.sub_zero, Nat.min_self])
      | (refine Rm_need (by first | exact True.intro | omega | (simp; omega)) ?_)
      | (refine Rm_w rfl (h2) (by trivial) ?_)
      | (refine Rm_w ?_ (h2) (by trivial) ?_; · (simp [viewOfs, viewOf, List.take_of_length_le, cutL]; done))
      | (refine Rm_w rfl (h3) (by trivial) ?_)
      | (refine Rm_w ?_ (h3) (by trivial) ?_; · (simp [viewOfs, viewOf, List.take_of_length_le, cutL]; done))
      | (refine Rm_gi (by first | omega | (simp; omega)) ?_)
      | (refine Rm_gb (by first | omega | (simp; omega)) ?_)
      | (refine Rm_ga (by first | omega | (simp; omega)) _ rfl (Nat.le_of_ble_eq_true rfl) ?_)
      | (refine Rm_gm (by first | omega | (simp; omega)) _ rfl ?_)
      | (refine Rm_part _ _ rfl rfl ?_)
      | (refine Rm_puti (by first | omega | (simp; omega)) rfl ?_)
      | (refine Dm_draw [] (by simp) ?_)
      | (refine Tm_both ?_ ?_)
      | (refine Tm_fin (by simp only [hideOK, newsE]; simp []) ?_)
      | (refine Cm_split (fun h => ?_) (fun h => ?_) <;> (try (simp only [decide_eq_true_eq, decide_eq_false_iff_not, bne_iff_ne, beq_iff_eq, bne_eq_false_iff_eq, beq_eq_false_iff_ne, Bool.not_eq_true, Bool.not_eq_true', Bool.not_eq_false, Bool.not_eq_false', ne_eq, Bool.and_eq_true, Bool.or_eq_true, true_eq_decide_iff, false_eq_decide_iff] at h)) <;> (try omega))
      | (refine Gm_split (fun h => ?_) (fun h => ?_) <;> (try simp only [ne_eq, Bool.not_eq_true, Bool.not_eq_false] at h) <;> (try rw [h]) <;> (try (simp only [decide_eq_true_eq, decide_eq_false_iff_not, bne_iff_ne, beq_iff_eq, bne_eq_false_iff_eq, beq_eq_false_iff_ne, Bool.not_eq_true, Bool.not_eq_true', Bool.not_eq_false, Bool.not_eq_false', ne_eq, Bool.and_eq_true, Bool.or_eq_true, true_eq_decide_iff, false_eq_decide_iff] at h)) <;> (try omega))
      | (refine Sm_split (fun h => ?_) (fun h => ?_) <;> (try (simp only [decide_eq_true_eq, decide_eq_false_iff_not, bne_iff_ne, beq_iff_eq, bne_eq_false_iff_eq, beq_eq_false_iff_ne, Bool.not_eq_true, Bool.not_eq_true', Bool.not_eq_false, Bool.not_eq_false', ne_eq, Bool.and_eq_true, Bool.or_eq_true, true_eq_decide_iff, false_eq_decide_iff] at h)) <;> (try omega))
      | (exact ret_p rfl ⟨rfl, rfl⟩)
      | (refine ret_okv (by first | trivial | simp only [go_sem, detD, detDs, detP, and_self, and_true]) ?_)
      | (exact ret_gen _ _ _ rfl rfl rfl ⟨rfl, rfl⟩)
      | (simp only [Option.some.injEq, DV.tup.injEq, DV.p.injEq, List.cons.injEq, PV.int.injEq, PV.bool.injEq, PV.str.injEq, and_true, true_and])
      | rfl
      | (refine Bool.eq_iff_iff.2 ?_; simp only [decide_eq_true_eq, Bool.and_eq_true, Bool.or_eq_true, Bool.not_eq_true', decide_eq_false_iff_not, Bool.false_eq_true, beq_iff_eq, bne_iff_ne, ne_eq, false_iff, iff_false, true_iff, iff_true]; omega)
      | omega)
    all_goals skip
end Go.Proofs.Ytgpalnoopmjlpaa

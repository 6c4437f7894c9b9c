import Derived.Test.YtgpalnoopmjlpaaBits2
namespace Go.Proofs.Ytgpalnoopmjlpaa
open Go.Dv Go.Dv.EvL
attribute [local irreducible] Ok Rm Dm Om Sm Xm Cm Gm Hm Tm

theorem set_bits {k : Nat} {v : Int} {t p : List Int} (h : p.length = k) {z : Int} : (p ++ z :: t).set k v = p ++ v :: t := by
  subst h
  simp
set_option maxRecDepth 100000 in
set_option maxHeartbeats 16000000 in
/-- impl.xorBits -/
theorem k_xorBits (a b : List UInt8) (hl : a.length ≤ 1000) (hb : b.length = a.length) : Okv Try.prog 110 [.str a, .str b] (.p (.str (xorB a b))) := by
  refine ok_D hmix c_impl_xorBits (by simp) ?_
  simp only [envOf, envFrom, go_sem, Nat.lt_add_one, reduceIte, Nat.reduceEqDiff]
  repeat' (first
    | (simp only [go_sem, reduceIte, Nat.reduceEqDiff])
    | (simp (disch := omega) only [nmul])
    | (refine Rm_need (by first | exact True.intro | omega | (simp; omega)) ?_)
    | (refine Rm_gi (by first | omega | (simp; omega)) ?_)
    | (refine Rm_gb (by first | omega | (simp; omega)) ?_)
    | (refine Rm_ga (by first | omega | (simp; omega)) _ rfl (Nat.le_of_ble_eq_true rfl) ?_)
    | (refine Rm_gm (by first | omega | (simp; omega)) _ rfl ?_)
    | (refine Rm_part _ _ rfl rfl ?_)
    | (refine Rm_puti (by first | omega | (simp; omega)) rfl ?_)
    | (refine Dm_draw [] (by simp) ?_)
    | (refine Tm_both ?_ ?_)
    | (refine Tm_fin (by simp only [hideOK, newsE]; simp []) ?_)
    | (refine Cm_split (fun h => ?_) (fun h => ?_) <;> (try (simp only [decide_eq_true_eq, decide_eq_false_iff_not, bne_iff_ne, beq_iff_eq, bne_eq_false_iff_eq, beq_eq_false_iff_ne, Bool.not_eq_true, Bool.not_eq_true', Bool.not_eq_false, Bool.not_eq_false', ne_eq, Bool.and_eq_true, Bool.or_eq_true, true_eq_decide_iff, false_eq_decide_iff] at h)) <;> (try omega))
    | (refine Gm_split (fun h => ?_) (fun h => ?_) <;> (try simp only [ne_eq, Bool.not_eq_true, Bool.not_eq_false] at h) <;> (try rw [h]) <;> (try (simp only [decide_eq_true_eq, decide_eq_false_iff_not, bne_iff_ne, beq_iff_eq, bne_eq_false_iff_eq, beq_eq_false_iff_ne, Bool.not_eq_true, Bool.not_eq_true', Bool.not_eq_false, Bool.not_eq_false', ne_eq, Bool.and_eq_true, Bool.or_eq_true, true_eq_decide_iff, false_eq_decide_iff] at h)) <;> (try omega))
    | (refine Sm_split (fun h => ?_) (fun h => ?_) <;> (try (simp only [decide_eq_true_eq, decide_eq_false_iff_not, bne_iff_ne, beq_iff_eq, bne_eq_false_iff_eq, beq_eq_false_iff_ne, Bool.not_eq_true, Bool.not_eq_true', Bool.not_eq_false, Bool.not_eq_false', ne_eq, Bool.and_eq_true, Bool.or_eq_true, true_eq_decide_iff, false_eq_decide_iff] at h)) <;> (try omega))
    | (exact ret_p rfl ⟨rfl, rfl⟩)
    | (refine ret_okv (by first | trivial | simp only [go_sem, detD, detDs, detP, and_self, and_true]) ?_)
    | (exact ret_gen _ _ _ rfl rfl rfl ⟨rfl, rfl⟩)
    | (simp only [Option.some.injEq, DV.tup.injEq, DV.p.injEq, List.cons.injEq, PV.int.injEq, PV.bool.injEq, PV.str.injEq, and_true, true_and])
    | rfl
    | (refine Bool.eq_iff_iff.2 ?_; simp only [decide_eq_true_eq, Bool.and_eq_true, Bool.or_eq_true, Bool.not_eq_true', decide_eq_false_iff_not, Bool.false_eq_true, beq_iff_eq, bne_iff_ne, ne_eq, false_iff, iff_false, true_iff, iff_true]; omega)
    | omega)
  refine Dm_loop [0, 1, 5, 11, 12] (fun m ds H' => ∃ i : Nat, i ≤ a.length ∧ m = a.length - i ∧ ds = [.p (.str a), .p (.str b), .own 0 0 a.length, .p (.int .i64 a.length), .p (.int .i64 i)] ∧
    H' = [.arr 5 1 ((((xorB (a.take i) (b.take i)).map fun c : UInt8 => (c.toNat : Int)) ++ List.replicate (a.length - i) (0 : Int)).map (.int .u8))]) a.length ⟨0, by omega, by omega, by rfl, by simp [xorB]; rfl⟩ ?_
  rintro m ds H' ⟨i, hi, rfl, rfl, rfl⟩ -
  have hxl : (xorB (a.take i) (b.take i)).length = i := by rw [xorB_len _ _ (by simp; omega), List.length_take]; omega
  rcases Nat.lt_or_ge i a.length with hlt | hge
  · obtain ⟨k, hk⟩ : ∃ k, a.length - i = k + 1 := ⟨a.length - i - 1, by omega⟩
    have hstep := xorB_step (a := a) (b := b) hlt (by omega)
    have e1 : a.getD i 0 = a.getD i default := rfl
    have e2 : b.getD i 0 = b.getD i default := rfl
    rw [hk]
    have hrow : (((xorB (a.take i) (b.take i)).map fun c : UInt8 => (c.toNat : Int)) ++ List.replicate (k + 1) (0 : Int)).length = a.length := by simp [hxl]; omega
    have hset : ∀ v : Int, (((xorB (a.take i) (b.take i)).map fun c : UInt8 => (c.toNat : Int)) ++ List.replicate (k + 1) (0 : Int)).set i v = ((xorB (a.take i) (b.take i)).map fun c : UInt8 => (c.toNat : Int)) ++ v :: List.replicate k 0 := fun v => by
      rw [List.replicate_succ]
      exact set_bits (by simp [hxl])
    generalize hR : ((xorB (a.take i) (b.take i)).map fun c : UInt8 => (c.toNat : Int)) ++ List.replicate (k + 1) (0 : Int) = R at *
    repeat' (first
      | (simp only [go_sem, reduceIte, Nat.reduceEqDiff])
      | (simp (disch := omega) only [w64, nadd1])
      | (refine Rm_need (by first | exact True.intro | omega | (simp; omega)) ?_)
      | (rw [e1])
      | (rw [e2])
      | (refine Rm_puti (by first | omega | (simp; omega)) rfl ?_)
      | (refine Rm_gi (by first | omega | (simp; omega)) ?_)
      | (refine Rm_gb (by first | omega | (simp; omega)) ?_)
      | (refine Rm_ga (by first | omega | (simp; omega)) _ rfl (Nat.le_of_ble_eq_true rfl) ?_)
      | (refine Rm_gm (by first | omega | (simp; omega)) _ rfl ?_)
      | (refine Rm_part _ _ rfl rfl ?_)
      | (refine Rm_puti (by first | omega | (simp; omega)) rfl ?_)
      | (refine Dm_draw [] (by simp) ?_)
      | (refine Tm_both ?_ ?_)
      | (refine Tm_fin (by simp only [hideOK, newsE]; simp []) ?_)
      | (refine Cm_split (fun h => ?_) (fun h => ?_) <;> (try (simp only [decide_eq_true_eq, decide_eq_false_iff_not, bne_iff_ne, bne_eq_false_iff_eq, ne_eq] at h)) <;> (try omega))
      | (refine Gm_split (fun h => ?_) (fun h => ?_) <;> (try simp only [ne_eq, Bool.not_eq_true, Bool.not_eq_false] at h) <;> (try rw [h]) <;> (try (simp only [decide_eq_true_eq, decide_eq_false_iff_not, bne_iff_ne, beq_iff_eq, bne_eq_false_iff_eq, beq_eq_false_iff_ne, Bool.not_eq_true, Bool.not_eq_true', Bool.not_eq_false, Bool.not_eq_false', ne_eq, Bool.and_eq_true, Bool.or_eq_true, true_eq_decide_iff, false_eq_decide_iff] at h)) <;> (try omega))
      | (refine Sm_split (fun h => ?_) (fun h => ?_) <;> (try (simp only [decide_eq_true_eq, decide_eq_false_iff_not, bne_iff_ne, beq_iff_eq, bne_eq_false_iff_eq, beq_eq_false_iff_ne, Bool.not_eq_true, Bool.not_eq_true', Bool.not_eq_false, Bool.not_eq_false', ne_eq, Bool.and_eq_true, Bool.or_eq_true, true_eq_decide_iff, false_eq_decide_iff] at h)) <;> (try omega))
      | (exact ret_p rfl ⟨rfl, rfl⟩)
      | (refine ret_okv (by first | trivial | simp only [go_sem, detD, detDs, detP, and_self, and_true]) ?_)
      | (exact ret_gen _ _ _ rfl rfl rfl ⟨rfl, rfl⟩)
      | (simp only [Option.some.injEq, DV.tup.injEq, DV.p.injEq, List.cons.injEq, PV.int.injEq, PV.bool.injEq, PV.str.injEq, and_true, true_and])
      | rfl
      | (refine Bool.eq_iff_iff.2 ?_; simp only [decide_eq_true_eq, Bool.and_eq_true, Bool.or_eq_true, Bool.not_eq_true', decide_eq_false_iff_not, Bool.false_eq_true, beq_iff_eq, bne_iff_ne, ne_eq, false_iff, iff_false, true_iff, iff_true]; omega)
      | omega)
    all_goals first
      | (refine Xm_inv_n (a.length - (i + 1)) (by omega) ⟨i + 1, by omega, rfl, by rfl, ?_⟩
         rw [hstep, if_neg (fun e => (by assumption : ¬ ((a.getD i default).toNat : Int) = ((b.getD i default).toNat : Int)) (by rw [e])), show a.length - (i + 1) = k from by omega]
         show [OB.arr _ _ (List.map (PV.int .u8) ((R.set i 48).set i 49))] = _
         rw [List.set_set, hset]
         simp; done)
      | (refine Xm_inv_n (a.length - (i + 1)) (by omega) ⟨i + 1, by omega, rfl, by rfl, ?_⟩
         rw [hstep, if_pos (u8_eq.1 (by assumption)), show a.length - (i + 1) = k from by omega]
         show [OB.arr _ _ (List.map (PV.int .u8) (R.set i 48))] = _
         rw [hset]
         simp; done)
      | skip
  · obtain rfl : i = a.length := by omega
    rw [Nat.sub_self, List.replicate_zero, List.append_nil, List.take_length, List.take_of_length_le (by omega)] at *
    have hbo := bytesOf_ints (s := xorB a b)
    have hrow : ((xorB a b).map fun c : UInt8 => (c.toNat : Int)).length = a.length := by simp [hxl]
    generalize hR : ((xorB a b).map fun c : UInt8 => (c.toNat : Int)) = R at *
    have htk : R.take a.length = R := List.take_of_length_le (by omega)
    repeat' (first
      | (simp only [go_sem, reduceIte, Nat.reduceEqDiff])
      | (simp (disch := omega) only [w64, w8, bytesOf_cons, tmod10, tdiv10, tn48, nsub1, nadd1, nsub, nadd, nmul, List.take_length, Int.toNat_zero, Int.reduceAdd, Int.reduceSub, Int.reduceToNat, Int.reduceMul, Nat.sub_zero, Nat.min_self])
      | (refine Rm_need (by first | exact True.intro | omega | (simp; omega)) ?_)
      | (rw [htk])
      | (rw [hbo])
      | (refine Rm_gi (by first | omega | (simp; omega)) ?_)
      | (refine Rm_gb (by first | omega | (simp; omega)) ?_)
      | (refine Rm_ga (by first | omega | (simp; omega)) _ rfl (Nat.le_of_ble_eq_true rfl) ?_)
      | (refine Rm_gm (by first | omega | (simp; omega)) _ rfl ?_)
      | (refine Rm_part _ _ rfl rfl ?_)
      | (refine Rm_puti (by first | omega | (simp; omega)) rfl ?_)
      | (refine Dm_draw [] (by simp) ?_)
      | (refine Tm_both ?_ ?_)
      | (refine Tm_fin (by simp only [hideOK, newsE]; simp []) ?_)
      | (refine Cm_split (fun h => ?_) (fun h => ?_) <;> (try (simp only [decide_eq_true_eq, decide_eq_false_iff_not] at h)) <;> (try omega))
      | (refine Gm_split (fun h => ?_) (fun h => ?_) <;> (try simp only [ne_eq, Bool.not_eq_true, Bool.not_eq_false] at h) <;> (try rw [h]) <;> (try (simp only [decide_eq_true_eq, decide_eq_false_iff_not, bne_iff_ne, beq_iff_eq, bne_eq_false_iff_eq, beq_eq_false_iff_ne, Bool.not_eq_true, Bool.not_eq_true', Bool.not_eq_false, Bool.not_eq_false', ne_eq, Bool.and_eq_true, Bool.or_eq_true, true_eq_decide_iff, false_eq_decide_iff] at h)) <;> (try omega))
      | (refine Sm_split (fun h => ?_) (fun h => ?_) <;> (try (simp only [decide_eq_true_eq, decide_eq_false_iff_not, bne_iff_ne, beq_iff_eq, bne_eq_false_iff_eq, beq_eq_false_iff_ne, Bool.not_eq_true, Bool.not_eq_true', Bool.not_eq_false, Bool.not_eq_false', ne_eq, Bool.and_eq_true, Bool.or_eq_true, true_eq_decide_iff, false_eq_decide_iff] at h)) <;> (try omega))
      | (exact ret_p rfl ⟨rfl, rfl⟩)
      | (refine ret_okv (by first | trivial | simp only [go_sem, detD, detDs, detP, and_self, and_true]) ?_)
      | (exact ret_gen _ _ _ rfl rfl rfl ⟨rfl, rfl⟩)
      | (simp only [Option.some.injEq, DV.tup.injEq, DV.p.injEq, List.cons.injEq, PV.int.injEq, PV.bool.injEq, PV.str.injEq, and_true, true_and])
      | rfl
      | (refine Bool.eq_iff_iff.2 ?_; simp only [decide_eq_true_eq, Bool.and_eq_true, Bool.or_eq_true, Bool.not_eq_true', decide_eq_false_iff_not, Bool.false_eq_true, beq_iff_eq, bne_iff_ne, ne_eq, false_iff, iff_false, true_iff, iff_true]; omega)
      | omega)
    all_goals skip
end Go.Proofs.Ytgpalnoopmjlpaa

import Derived.Test.YtgpalnoopmjlpaaBase
namespace Go.Proofs.Ytgpalnoopmjlpaa
open Go.Dv Go.Dv.EvL
attribute [local irreducible] Ok Rm Dm Om Sm Xm Cm Gm Hm Tm

/-! ### texts of bits -/
def bitC (b : Bool) : UInt8 := if b = true then 49 else 48
def bitsN (n : Nat) : Nat → List UInt8
  | 0 => []
  | d + 1 => bitC (n.testBit d) :: bitsN n d
theorem bits_len (n : Nat) : ∀ d, (bitsN n d).length = d
  | 0 => rfl
  | d + 1 => by simp [bitsN, bits_len n d]
theorem bitC_val (b : Bool) : (bitC b).toNat = 48 + b.toNat := by cases b <;> rfl
theorem bit_mod (n d : Nat) : n / 2 ^ d % 2 = (n.testBit d).toNat := by
  rw [Nat.testBit_eq_decide_div_mod_eq]
  rcases Nat.mod_two_eq_zero_or_one (n / 2 ^ d) with h | h <;> simp [h]
theorem div_next (n d : Nat) : n / 2 ^ d / 2 = n / 2 ^ (d + 1) := by rw [Nat.div_div_eq_div_mul, Nat.pow_succ]
theorem tmod2 {m : Nat} : (m : Int).tmod 2 = ((m % 2 : Nat) : Int) := tmod_nat m 2
theorem tdivb2 {m : Nat} : (m : Int).tdiv 2 = ((m / 2 : Nat) : Int) := tdiv_nat m 2
theorem bytesOf_ints {s : List UInt8} : bytesOf ((s.map fun c : UInt8 => (c.toNat : Int)).map (PV.int .u8)) = some s := by
  rw [List.map_map]
  exact bytesOf_map
theorem set_rep {k : Nat} {v : Int} {t : List Int} : (List.replicate (k + 1) (0 : Int) ++ t).set k v = List.replicate k 0 ++ v :: t := by
  rw [List.replicate_succ', List.append_assoc, List.set_append_right _ _ (by simp)]
  simp
set_option maxRecDepth 100000 in
set_option maxHeartbeats 16000000 in
/-- impl.bitsOf -/
theorem k_bitsOf (n w : Nat) (hn : n ≤ 9223372036854775807) (hw : w ≤ 1000) : Okv Try.prog 98 [.int .i64 n, .int .i64 w] (.p (.str (bitsN n w))) := by
  refine ok_D hmix c_impl_bitsOf (by simp) ?_
  simp only [envOf, envFrom, go_sem, Nat.lt_add_one, reduceIte, Nat.reduceEqDiff]
  repeat' (first
    | (simp only [go_sem, reduceIte, Nat.reduceEqDiff])
    | (simp (disch := omega) only [w64, nmul])
    | (refine Rm_need (by first | exact True.intro | omega | (simp; omega)) ?_)
    | (refine Rm_gi (by first | omega | (simp; omega)) ?_)
    | (refine Rm_gb (by first | omega | (simp; omega)) ?_)
    | (refine Rm_ga (by first | omega | (simp; omega)) _ rfl (Nat.le_of_ble_eq_true rfl) ?_)
    | (refine Rm_gm (by first | omega | (simp; omega)) _ rfl ?_)
    | (refine Rm_part _ _ rfl rfl ?_)
    | (refine Rm_puti (by first | omega | (simp; omega)) rfl ?_)
    | (refine Dm_draw [] (by simp) ?_)
    | (refine Tm_both ?_ ?_)
    | (refine Tm_fin (by simp only [hideOK, newsE]; simp []) ?_)
    | (refine Cm_split (fun h => ?_) (fun h => ?_) <;> (try (simp only [decide_eq_true_eq, decide_eq_false_iff_not, bne_iff_ne, beq_iff_eq, bne_eq_false_iff_eq, beq_eq_false_iff_ne, Bool.not_eq_true, Bool.not_eq_true', Bool.not_eq_false, Bool.not_eq_false', ne_eq, Bool.and_eq_true, Bool.or_eq_true, true_eq_decide_iff, false_eq_decide_iff] at h)) <;> (try omega))
    | (refine Gm_split (fun h => ?_) (fun h => ?_) <;> (try simp only [ne_eq, Bool.not_eq_true, Bool.not_eq_false] at h) <;> (try rw [h]) <;> (try (simp only [decide_eq_true_eq, decide_eq_false_iff_not, bne_iff_ne, beq_iff_eq, bne_eq_false_iff_eq, beq_eq_false_iff_ne, Bool.not_eq_true, Bool.not_eq_true', Bool.not_eq_false, Bool.not_eq_false', ne_eq, Bool.and_eq_true, Bool.or_eq_true, true_eq_decide_iff, false_eq_decide_iff] at h)) <;> (try omega))
    | (refine Sm_split (fun h => ?_) (fun h => ?_) <;> (try (simp only [decide_eq_true_eq, decide_eq_false_iff_not, bne_iff_ne, beq_iff_eq, bne_eq_false_iff_eq, beq_eq_false_iff_ne, Bool.not_eq_true, Bool.not_eq_true', Bool.not_eq_false, Bool.not_eq_false', ne_eq, Bool.and_eq_true, Bool.or_eq_true, true_eq_decide_iff, false_eq_decide_iff] at h)) <;> (try omega))
    | (exact ret_p rfl ⟨rfl, rfl⟩)
    | (refine ret_okv (by first | trivial | simp only [go_sem, detD, detDs, detP, and_self, and_true]) ?_)
    | (exact ret_gen _ _ _ rfl rfl rfl ⟨rfl, rfl⟩)
    | (simp only [Option.some.injEq, DV.tup.injEq, DV.p.injEq, List.cons.injEq, PV.int.injEq, PV.bool.injEq, PV.str.injEq, and_true, true_and])
    | rfl
    | (refine Bool.eq_iff_iff.2 ?_; simp only [decide_eq_true_eq, Bool.and_eq_true, Bool.or_eq_true, Bool.not_eq_true', decide_eq_false_iff_not, Bool.false_eq_true, beq_iff_eq, bne_iff_ne, ne_eq, false_iff, iff_false, true_iff, iff_true]; omega)
    | omega)
  refine Dm_loop [0, 5, 6] (fun m ds H' => ∃ d : Nat, d ≤ w ∧ m = w - d ∧ ds = [.p (.int .i64 (n / 2 ^ d : Nat)), .own 0 0 w, .p (.int .i64 ((w : Int) - ((d + 1 : Nat) : Int)))] ∧
    H' = [.arr 5 1 ((List.replicate (w - d) (0 : Int) ++ (bitsN n d).map fun c : UInt8 => (c.toNat : Int)).map (.int .u8))]) w ⟨0, by omega, by omega, by rw [Nat.pow_zero, Nat.div_one]; rfl, by simp [bitsN]; rfl⟩ ?_
  rintro m ds H' ⟨d, hd, rfl, rfl, rfl⟩ -
  have hb := bit_mod n d
  have hq := div_next n d
  have hbs : bitsN n (d + 1) = bitC (n.testBit d) :: bitsN n d := rfl
  have hv := bitC_val (n.testBit d)
  have hlen := bits_len n d
  have hql : n / 2 ^ d ≤ n := Nat.div_le_self _ _
  have hbt : (n.testBit d).toNat ≤ 1 := by cases n.testBit d <;> decide
  rw [hb.symm] at hv hbt
  generalize n / 2 ^ d = q at *
  rcases Nat.lt_or_ge d w with hlt | hge
  · obtain ⟨k, hk⟩ : ∃ k, w - d = k + 1 := ⟨w - d - 1, by omega⟩
    rw [hk, show ((w : Int) - ((d + 1 : Nat) : Int)) = (k : Int) from by omega]
    have hrow : (List.replicate (k + 1) (0 : Int) ++ (bitsN n d).map fun c : UInt8 => (c.toNat : Int)).length = w := by simp [hlen]; omega
    have hset := set_rep (k := k) (v := ((48 + q % 2 : Nat) : Int)) (t := (bitsN n d).map fun c : UInt8 => (c.toNat : Int))
    generalize hR : (List.replicate (k + 1) (0 : Int) ++ (bitsN n d).map fun c : UInt8 => (c.toNat : Int)) = R at *
    have h48 : ((48 : Int) + ((q % 2 : Nat) : Int)) = ((48 + q % 2 : Nat) : Int) := by omega
    repeat' (first
      | (simp only [go_sem, reduceIte, Nat.reduceEqDiff])
      | (simp (disch := omega) only [w64, w8])
      | (refine Rm_need (by first | exact True.intro | omega | (simp; omega)) ?_)
      | (rw [tmod2])
      | (rw [tdivb2])
      | (rw [h48])
      | (refine Rm_puti (by omega) rfl ?_)
      | (refine Rm_gi (by first | omega | (simp; omega)) ?_)
      | (refine Rm_gb (by first | omega | (simp; omega)) ?_)
      | (refine Rm_ga (by first | omega | (simp; omega)) _ rfl (Nat.le_of_ble_eq_true rfl) ?_)
      | (refine Rm_gm (by first | omega | (simp; omega)) _ rfl ?_)
      | (refine Rm_part _ _ rfl rfl ?_)
      | (refine Rm_puti (by first | omega | (simp; omega)) rfl ?_)
      | (refine Dm_draw [] (by simp) ?_)
      | (refine Tm_both ?_ ?_)
      | (refine Tm_fin (by simp only [hideOK, newsE]; simp []) ?_)
      | (refine Cm_split (fun h => ?_) (fun h => ?_) <;> (try (simp only [decide_eq_true_eq, decide_eq_false_iff_not] at h)) <;> (try omega))
      | (refine Gm_split (fun h => ?_) (fun h => ?_) <;> (try simp only [ne_eq, Bool.not_eq_true, Bool.not_eq_false] at h) <;> (try rw [h]) <;> (try (simp only [decide_eq_true_eq, decide_eq_false_iff_not, bne_iff_ne, beq_iff_eq, bne_eq_false_iff_eq, beq_eq_false_iff_ne, Bool.not_eq_true, Bool.not_eq_true', Bool.not_eq_false, Bool.not_eq_false', ne_eq, Bool.and_eq_true, Bool.or_eq_true, true_eq_decide_iff, false_eq_decide_iff] at h)) <;> (try omega))
      | (refine Sm_split (fun h => ?_) (fun h => ?_) <;> (try (simp only [decide_eq_true_eq, decide_eq_false_iff_not, bne_iff_ne, beq_iff_eq, bne_eq_false_iff_eq, beq_eq_false_iff_ne, Bool.not_eq_true, Bool.not_eq_true', Bool.not_eq_false, Bool.not_eq_false', ne_eq, Bool.and_eq_true, Bool.or_eq_true, true_eq_decide_iff, false_eq_decide_iff] at h)) <;> (try omega))
      | (exact ret_p rfl ⟨rfl, rfl⟩)
      | (refine ret_okv (by first | trivial | simp only [go_sem, detD, detDs, detP, and_self, and_true]) ?_)
      | (exact ret_gen _ _ _ rfl rfl rfl ⟨rfl, rfl⟩)
      | (simp only [Option.some.injEq, DV.tup.injEq, DV.p.injEq, List.cons.injEq, PV.int.injEq, PV.bool.injEq, PV.str.injEq, and_true, true_and])
      | rfl
      | (refine Bool.eq_iff_iff.2 ?_; simp only [decide_eq_true_eq, Bool.and_eq_true, Bool.or_eq_true, Bool.not_eq_true', decide_eq_false_iff_not, Bool.false_eq_true, beq_iff_eq, bne_iff_ne, ne_eq, false_iff, iff_false, true_iff, iff_true]; omega)
      | omega)
    all_goals first
      | (refine Xm_inv_n (w - (d + 1)) (by omega) ⟨d + 1, by omega, rfl, ?_, ?_⟩
         · rw [← hq, show ((w : Int) - ((d + 1 + 1 : Nat) : Int)) = (k : Int) - 1 from by omega]; rfl
         · rw [hset, hbs, show w - (d + 1) = k from by omega, List.map_cons, hv]; rfl)
      | skip
  · obtain rfl : d = w := by omega
    rw [Nat.sub_self, List.replicate_zero, List.nil_append]
    have hbo := bytesOf_ints (s := bitsN n d)
    have hrow : ((bitsN n d).map fun c : UInt8 => (c.toNat : Int)).length = d := by simp [hlen]
    generalize hR : ((bitsN n d).map fun c : UInt8 => (c.toNat : Int)) = R at *
    have htk : R.take d = R := List.take_of_length_le (by omega)
    repeat' (first
      | (simp only [go_sem, reduceIte, Nat.reduceEqDiff])
      | (simp (disch := omega) only [w64, w8, bytesOf_cons, tmod10, tdiv10, tn48, nsub1, nadd1, nsub, nadd, nmul, List.take_length, Int.toNat_zero, Int.reduceAdd, Int.reduceSub, Int.reduceToNat, Int.reduceMul, Nat.sub_zero, Nat.min_self])
      | (refine Rm_need (by first | exact True.intro | omega | (simp; omega)) ?_)
      | (rw [htk])
      | (rw [hbo])
      | (refine Rm_gi (by first | omega | (simp; omega)) ?_)
      | (refine Rm_gb (by first | omega | (simp; omega)) ?_)
      | (refine Rm_ga (by first | omega | (simp; omega)) _ rfl (Nat.le_of_ble_eq_true rfl) ?_)
      | (refine Rm_gm (by first | omega | (simp; omega)) _ rfl ?_)
      | (refine Rm_part _ _ rfl rfl ?_)
      | (refine Rm_puti (by first | omega | (simp; omega)) rfl ?_)
      | (refine Dm_draw [] (by simp) ?_)
      | (refine Tm_both ?_ ?_)
      | (refine Tm_fin (by simp only [hideOK, newsE]; simp []) ?_)
      | (refine Cm_split (fun h => ?_) (fun h => ?_) <;> (try (simp only [decide_eq_true_eq, decide_eq_false_iff_not] at h)) <;> (try omega))
      | (refine Gm_split (fun h => ?_) (fun h => ?_) <;> (try simp only [ne_eq, Bool.not_eq_true, Bool.not_eq_false] at h) <;> (try rw [h]) <;> (try (simp only [decide_eq_true_eq, decide_eq_false_iff_not, bne_iff_ne, beq_iff_eq, bne_eq_false_iff_eq, beq_eq_false_iff_ne, Bool.not_eq_true, Bool.not_eq_true', Bool.not_eq_false, Bool.not_eq_false', ne_eq, Bool.and_eq_true, Bool.or_eq_true, true_eq_decide_iff, false_eq_decide_iff] at h)) <;> (try omega))
      | (refine Sm_split (fun h => ?_) (fun h => ?_) <;> (try (simp only [decide_eq_true_eq, decide_eq_false_iff_not, bne_iff_ne, beq_iff_eq, bne_eq_false_iff_eq, beq_eq_false_iff_ne, Bool.not_eq_true, Bool.not_eq_true', Bool.not_eq_false, Bool.not_eq_false', ne_eq, Bool.and_eq_true, Bool.or_eq_true, true_eq_decide_iff, false_eq_decide_iff] at h)) <;> (try omega))
      | (exact ret_p rfl ⟨rfl, rfl⟩)
      | (refine ret_okv (by first | trivial | simp only [go_sem, detD, detDs, detP, and_self, and_true]) ?_)
      | (exact ret_gen _ _ _ rfl rfl rfl ⟨rfl, rfl⟩)
      | (simp only [Option.some.injEq, DV.tup.injEq, DV.p.injEq, List.cons.injEq, PV.int.injEq, PV.bool.injEq, PV.str.injEq, and_true, true_and])
      | rfl
      | (refine Bool.eq_iff_iff.2 ?_; simp only [decide_eq_true_eq, Bool.and_eq_true, Bool.or_eq_true, Bool.not_eq_true', decide_eq_false_iff_not, Bool.false_eq_true, beq_iff_eq, bne_iff_ne, ne_eq, false_iff, iff_false, true_iff, iff_true]; omega)
      | omega)
    all_goals skip
theorem two_cut : ∀ {b : Nat}, b ≤ 1 → cutL [48, 49] b (b + 1) = [UInt8.ofNat (48 + b)]
  | 0, _ => rfl
  | 1, _ => rfl
  | b + 2, h => by omega
theorem bitC_of (b : Bool) : UInt8.ofNat (48 + b.toNat) = bitC b := by cases b <;> rfl
set_option maxRecDepth 100000 in
set_option maxHeartbeats 16000000 in
/-- spec.l2Of -/
theorem k_l2Of (n w : Nat) (hn : n ≤ 9223372036854775807) (hw : w ≤ 1000) : Okv Try.prog 92 [.int .i64 n, .int .i64 w] (.p (.str (bitsN n w))) := by
  refine ok_D hmix c_spec_l2Of (by simp) ?_
  simp only [envOf, envFrom, go_sem]
  refine Dm_loop [0, 1, 5, 6] (fun m ds H' => ∃ d : Nat, d ≤ w ∧ m = w - d ∧ ds = [.p (.int .i64 (n / 2 ^ d : Nat)), .p (.int .i64 w), .p (.str (bitsN n d)), .p (.int .i64 d)] ∧ H' = []) w ⟨0, by omega, by omega, by simp [bitsN]; rfl, rfl⟩ ?_
  rintro m ds H' ⟨d, hd, rfl, rfl, rfl⟩ -
  have hb := bit_mod n d
  have hq := div_next n d
  have hbs : bitsN n (d + 1) = bitC (n.testBit d) :: bitsN n d := rfl
  have hv := bitC_of (n.testBit d)
  have hlen := bits_len n d
  have hql : n / 2 ^ d ≤ n := Nat.div_le_self _ _
  have hbt : (n.testBit d).toNat ≤ 1 := by cases n.testBit d <;> decide
  rw [hb.symm] at hv hbt
  have hcut := two_cut hbt
  rw [hv] at hcut
  generalize n / 2 ^ d = q at *
  repeat' (first
    | (simp only [go_sem, reduceIte, Nat.reduceEqDiff, Nat.reduceAdd])
    | (simp (disch := omega) only [w64, nadd1])
    | (refine Rm_need (by first | exact True.intro | omega | (simp; omega)) ?_)
    | (rw [tmod2])
    | (rw [tdivb2])
    | (rw [hcut])
    | (refine Rm_gi (by first | omega | (simp; omega)) ?_)
    | (refine Rm_gb (by first | omega | (simp; omega)) ?_)
    | (refine Rm_ga (by first | omega | (simp; omega)) _ rfl (Nat.le_of_ble_eq_true rfl) ?_)
    | (refine Rm_gm (by first | omega | (simp; omega)) _ rfl ?_)
    | (refine Rm_part _ _ rfl rfl ?_)
    | (refine Rm_puti (by first | omega | (simp; omega)) rfl ?_)
    | (refine Dm_draw [] (by simp) ?_)
    | (refine Tm_both ?_ ?_)
    | (refine Tm_fin (by simp only [hideOK, newsE]; simp []) ?_)
    | (refine Cm_split (fun h => ?_) (fun h => ?_) <;> (try (simp only [decide_eq_true_eq, decide_eq_false_iff_not] at h)) <;> (try omega))
    | (refine Gm_split (fun h => ?_) (fun h => ?_) <;> (try simp only [ne_eq, Bool.not_eq_true, Bool.not_eq_false] at h) <;> (try rw [h]) <;> (try (simp only [decide_eq_true_eq, decide_eq_false_iff_not, bne_iff_ne, beq_iff_eq, bne_eq_false_iff_eq, beq_eq_false_iff_ne, Bool.not_eq_true, Bool.not_eq_true', Bool.not_eq_false, Bool.not_eq_false', ne_eq, Bool.and_eq_true, Bool.or_eq_true, true_eq_decide_iff, false_eq_decide_iff] at h)) <;> (try omega))
    | (refine Sm_split (fun h => ?_) (fun h => ?_) <;> (try (simp only [decide_eq_true_eq, decide_eq_false_iff_not, bne_iff_ne, beq_iff_eq, bne_eq_false_iff_eq, beq_eq_false_iff_ne, Bool.not_eq_true, Bool.not_eq_true', Bool.not_eq_false, Bool.not_eq_false', ne_eq, Bool.and_eq_true, Bool.or_eq_true, true_eq_decide_iff, false_eq_decide_iff] at h)) <;> (try omega))
    | (exact ret_p rfl ⟨rfl, rfl⟩)
    | (refine ret_okv (by first | trivial | simp only [go_sem, detD, detDs, detP, and_self, and_true]) ?_)
    | (exact ret_gen _ _ _ rfl rfl rfl ⟨rfl, rfl⟩)
    | (simp only [Option.some.injEq, DV.p.injEq, PV.str.injEq])
    | rfl
    | (refine Bool.eq_iff_iff.2 ?_; simp only [decide_eq_true_eq, Bool.and_eq_true, Bool.or_eq_true, Bool.not_eq_true', decide_eq_false_iff_not, Bool.false_eq_true, beq_iff_eq, bne_iff_ne, ne_eq, false_iff, iff_false, true_iff, iff_true]; omega)
    | omega)
  all_goals first
    | (refine Xm_inv_n (w - (d + 1)) (by omega) ⟨d + 1, by omega, rfl, ?_, rfl⟩
       rw [← hq, hbs]; rfl)
    | (rw [show w = d from by omega])
    | skip
end Go.Proofs.Ytgpalnoopmjlpaa

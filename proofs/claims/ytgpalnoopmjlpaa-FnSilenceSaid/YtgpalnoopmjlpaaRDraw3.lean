import Derived.Test.YtgpalnoopmjlpaaRDraw2
namespace Go.Proofs.Ytgpalnoopmjlpaa
open Go.Dv Go.Dv.EvL
attribute [local irreducible] Ok Rm Dm Om Sm Xm Cm Gm Hm Tm

def RcdIn (r : Rcd) : Prop := (-1000000000 ≤ r.sec ∧ r.sec ≤ 1000000000) ∧ r.hex.length ≤ 1000
def RsIn (xs : List Rcd) : Prop := xs.length ≤ 30 ∧ ∀ r ∈ xs, RcdIn r
theorem RsIn.app {xs : List Rcd} {r : Rcd} (h : RsIn xs) (hl : xs.length ≤ 29) (hr : RcdIn r) : RsIn (xs ++ [r]) :=
  ⟨by simp; omega, fun q hq => by
    simp only [List.mem_append, List.mem_singleton] at hq
    rcases hq with hq | rfl
    · exact h.2 q hq
    · exact hr⟩
theorem RsIn.set {xs : List Rcd} {r : Rcd} {j : Nat} (h : RsIn xs) (hr : RcdIn r) : RsIn (xs.set j r) :=
  ⟨by simp; exact h.1, fun q hq => by
    rcases List.mem_or_eq_of_mem_set hq with hq | rfl
    · exact h.2 q hq
    · exact hr⟩
theorem hex_in (k a d : Nat) : (l2x (frT k a d) 14).length ≤ 1000 := by
  have := l2x_len (frT k a d) 14
  omega
theorem put_RcdA {M : Md} {q : Bool} {d : Option Nat} {os : List GOp} {s : Stk} {env : Env} {H : Heap} {i j t : Nat} {a : List UInt8} {b : Int} {xs : List Rcd} (h : j < xs.length) (hg : H[i]? = some (.arr t 2 (xs.map Rcd.pv)))
    (h2 : Sm M q (asked d os) .undef d os s env (setL H i (.arr t 2 ((xs.set j (⟨b, a⟩ : Rcd)).map Rcd.pv)))) : Rm M q (.put i ((xs.map Rcd.pv)[j]?) j 0 2 (.agg [.int .i64 b, .str a]) H) d os s env :=
  Rm_putw h ⟨b, a⟩ rfl rfl hg h2
set_option maxRecDepth 100000 in
set_option maxHeartbeats 16000000 in
/-- spec.l1Cur.recorded -/
theorem k_recorded (code : List UInt8) (a s : Int) (hc : code.length ≤ 65536) (ha : 0 ≤ a ∧ a ≤ 900000) : Ok Try.prog 72 [.ptr 0 0 0] [curO code a s]
    fun d H => ∃ (xs : List Rcd) (a' s' : Int), d = .own 1 0 xs.length ∧ RsIn xs ∧ a ≤ a' ∧ a' ≤ a + 1000 ∧ H = [curO code a' s', .arr 58 2 (xs.map Rcd.pv)] := by
  refine ok_D hmix c_spec_l1Cur_recorded (by simp) ?_
  simp only [envOf, envFrom, go_sem, Nat.lt_add_one, reduceIte, Nat.reduceEqDiff, Nat.reduceAdd, Nat.reduceMul, Nat.reduceLeDiff]
  repeat' (first
    | (simp only [go_sem, reduceIte, Nat.reduceEqDiff])
    | (simp (disch := omega) only [w64, w8, bytesOf_cons, tmod10, tdiv10, tn48, nsub1, nadd1, nsub, nadd, nmul, List.take_length, Int.toNat_zero, Int.reduceAdd, Int.reduceSub, Int.reduceToNat, Int.reduceMul, Nat.sub_zero, Nat.min_self])
    | (refine Rm_need (by first | exact True.intro | omega | (simp; omega)) ?_)
    | (refine Rm_among 0 3600 hc rfl rfl rfl (by omega) (by omega) (by first | decide | (simp; omega)) (by decide) (fun r a1 s1 q1 q2 q5 q3 q4 => ?_); clear q5)
    | (refine Rm_pick hc rfl (by omega) (by first | omega | (simp; omega)) (fun r a1 s1 q2 q3 q4 => ?_))
    | (refine Rm_one hc rfl (by omega) (by first | omega | (simp; omega)) (fun r a1 s1 q3 q4 => ?_))
    | (refine Rm_of 1000 hc rfl rfl rfl (by omega) (by omega) (by first | decide | omega) (by decide) (fun r a1 s1 q1 q2 q3 q4 => ?_); clear q2)
    | (refine Rm_among (-1000000000000) 1000000000000 hc rfl rfl rfl (by omega) (by omega) (by first | decide | (simp; omega)) (by decide) (fun r a1 s1 q1 q2 q5 q3 q4 => ?_); clear q5)
    | (refine Rm_gi (by first | omega | (simp; omega)) ?_)
    | (refine Rm_gb (by first | omega | (simp; omega)) ?_)
    | (refine Rm_ga (by first | omega | (simp; omega)) _ rfl (Nat.le_of_ble_eq_true rfl) ?_)
    | (refine Rm_gm (by first | omega | (simp; omega)) _ rfl ?_)
    | (refine Rm_part _ _ rfl rfl ?_)
    | (refine Rm_puti (by first | omega | (simp; omega)) rfl ?_)
    | (refine Dm_draw [] (by simp) ?_)
    | (refine Tm_both ?_ ?_)
    | (refine Tm_fin (by simp only [hideOK, newsE]; simp []) ?_)
    | (refine Cm_split (fun h => ?_) (fun h => ?_) <;> (try (simp only [decide_eq_true_eq, decide_eq_false_iff_not, bne_iff_ne, beq_iff_eq, bne_eq_false_iff_eq, beq_eq_false_iff_ne, Bool.not_eq_true, Bool.not_eq_true', Bool.not_eq_false, Bool.not_eq_false', ne_eq, Bool.and_eq_true, Bool.or_eq_true, true_eq_decide_iff, false_eq_decide_iff] at h)) <;> (try omega))
    | (refine Gm_split (fun h => ?_) (fun h => ?_) <;> (try simp only [ne_eq, Bool.not_eq_true, Bool.not_eq_false] at h) <;> (try rw [h]) <;> (try (simp only [decide_eq_true_eq, decide_eq_false_iff_not, bne_iff_ne, beq_iff_eq, bne_eq_false_iff_eq, beq_eq_false_iff_ne, Bool.not_eq_true, Bool.not_eq_true', Bool.not_eq_false, Bool.not_eq_false', ne_eq, Bool.and_eq_true, Bool.or_eq_true, true_eq_decide_iff, false_eq_decide_iff] at h)) <;> (try omega))
    | (refine Sm_split (fun h => ?_) (fun h => ?_) <;> (try (simp only [decide_eq_true_eq, decide_eq_false_iff_not, bne_iff_ne, beq_iff_eq, bne_eq_false_iff_eq, beq_eq_false_iff_ne, Bool.not_eq_true, Bool.not_eq_true', Bool.not_eq_false, Bool.not_eq_false', ne_eq, Bool.and_eq_true, Bool.or_eq_true, true_eq_decide_iff, false_eq_decide_iff] at h)) <;> (try omega))
    | (exact ret_p rfl ⟨rfl, rfl⟩)
    | (refine ret_okv (by first | trivial | simp only [go_sem, detD, detDs, detP, and_self, and_true]) ?_)
    | (exact ret_gen _ _ _ rfl rfl rfl ⟨rfl, rfl⟩)
    | (simp only [Option.some.injEq, DV.tup.injEq, DV.p.injEq, List.cons.injEq, PV.int.injEq, PV.bool.injEq, PV.str.injEq, and_true, true_and])
    | rfl
    | (refine Bool.eq_iff_iff.2 ?_; simp only [decide_eq_true_eq, Bool.and_eq_true, Bool.or_eq_true, Bool.not_eq_true', decide_eq_false_iff_not, Bool.false_eq_true, beq_iff_eq, bne_iff_ne, ne_eq, false_iff, iff_false, true_iff, iff_true]; omega)
    | omega)
  refine Dm_loop [0, 3, 4, 5] (fun m ds H' => ∃ (zs : List Rcd) (t a' s' : Int), zs.length + m ≤ 9 ∧ RsIn zs ∧ 0 ≤ t ∧ t + 3600 * m ≤ 100000 ∧ a ≤ a' ∧ a' + 50 * m ≤ a + 600 ∧
    ds = [.ptr 0 0 0, .own 1 0 zs.length, .p (.int .i64 t), .p (.int .i64 m)] ∧ H' = [curO code a' s', .arr 58 2 (zs.map Rcd.pv)]) _ ⟨[], _, _, _, by simp; omega, ⟨by simp, by simp⟩, by omega, by omega, by omega, by omega, rfl, rfl⟩ ?_
  rintro m ds H' ⟨zs, t, a', s', hl, hz, ht, htm, haa, ham, rfl, rfl⟩ -
  rcases m with _ | m
  · have hat : ∀ j, j < zs.length → RcdIn (zs.getD j default) := fun j hj => hz.2 _ (getD_mem hj)
    unfold RcdIn at hat
    repeat' (first
      | (simp only [go_sem, Nat.lt_add_one, reduceIte, Nat.reduceEqDiff, Nat.reduceAdd, Nat.reduceMul, Nat.reduceLeDiff, Nat.reduceLT])
      | (simp (disch := omega) only [w64, w8, bytesOf_cons, tmod10, tdiv10, tn48, nsub1, nadd1, nsub, nadd, nmul, List.take_length, Int.toNat_zero, Int.reduceAdd, Int.reduceSub, Int.reduceToNat, Int.reduceMul, Nat.sub_zero, Nat.min_self])
      | (refine Rm_need (by first | exact True.intro | omega | (simp; omega)) ?_)
      | (refine Rm_among (-1) 86401 hc rfl rfl rfl (by omega) (by omega) (by first | decide | (simp; omega)) (by decide) (fun r a1 s1 q1 q2 q5 q3 q4 => ?_); clear q5)
      | (refine Rm_pick hc rfl (by omega) (by first | omega | (simp; omega)) (fun r a1 s1 q2 q3 q4 => ?_))
      | (refine Rm_one hc rfl (by omega) (by first | omega | (simp; omega)) (fun r a1 s1 q3 q4 => ?_))
      | (refine Rm_of 1000 hc rfl rfl rfl (by omega) (by omega) (by first | decide | omega) (by decide) (fun r a1 s1 q1 q2 q3 q4 => ?_); clear q2)
      | (refine Rm_among (-1000000000000) 1000000000000 hc rfl rfl rfl (by omega) (by omega) (by first | decide | (simp; omega)) (by decide) (fun r a1 s1 q1 q2 q5 q3 q4 => ?_); clear q5)
      | (refine put_RcdA (by omega) rfl ?_)
      | (refine Rm_gi (by first | omega | (simp; omega)) ?_)
      | (refine Rm_gb (by first | omega | (simp; omega)) ?_)
      | (refine Rm_ga (by first | omega | (simp; omega)) _ rfl (Nat.le_of_ble_eq_true rfl) ?_)
      | (refine Rm_gm (by first | omega | (simp; omega)) _ rfl ?_)
      | (refine Rm_part _ _ rfl rfl ?_)
      | (refine Rm_puti (by first | omega | (simp; omega)) rfl ?_)
      | (refine Dm_draw [] (by simp) ?_)
      | (refine Tm_both ?_ ?_)
      | (refine Tm_fin (by simp only [hideOK, newsE]; simp []) ?_)
      | (refine Cm_split (fun h => ?_) (fun h => ?_) <;> (try (simp only [decide_eq_true_eq, decide_eq_false_iff_not, beq_iff_eq, beq_eq_false_iff_ne, ne_eq] at h)) <;> (try omega))
      | (refine Gm_split (fun h => ?_) (fun h => ?_) <;> (try simp only [ne_eq, Bool.not_eq_true, Bool.not_eq_false] at h) <;> (try rw [h]) <;> (try (simp only [decide_eq_true_eq, decide_eq_false_iff_not, bne_iff_ne, beq_iff_eq, bne_eq_false_iff_eq, beq_eq_false_iff_ne, Bool.not_eq_true, Bool.not_eq_true', Bool.not_eq_false, Bool.not_eq_false', ne_eq, Bool.and_eq_true, Bool.or_eq_true, true_eq_decide_iff, false_eq_decide_iff] at h)) <;> (try omega))
      | (refine Sm_split (fun h => ?_) (fun h => ?_) <;> (try (simp only [decide_eq_true_eq, decide_eq_false_iff_not, bne_iff_ne, beq_iff_eq, bne_eq_false_iff_eq, beq_eq_false_iff_ne, Bool.not_eq_true, Bool.not_eq_true', Bool.not_eq_false, Bool.not_eq_false', ne_eq, Bool.and_eq_true, Bool.or_eq_true, true_eq_decide_iff, false_eq_decide_iff] at h)) <;> (try omega))
      | (exact ret_p rfl ⟨rfl, rfl⟩)
      | (refine ret_okv (by first | trivial | simp only [go_sem, detD, detDs, detP, and_self, and_true]) ?_)
      | (exact ret_gen _ _ _ rfl rfl rfl ⟨rfl, rfl⟩)
      | (simp only [Option.some.injEq, DV.tup.injEq, DV.p.injEq, List.cons.injEq, PV.int.injEq, PV.bool.injEq, PV.str.injEq, and_true, true_and])
      | rfl
      | (refine Bool.eq_iff_iff.2 ?_; simp only [decide_eq_true_eq, Bool.and_eq_true, Bool.or_eq_true, Bool.not_eq_true', decide_eq_false_iff_not, Bool.false_eq_true, beq_iff_eq, bne_iff_ne, ne_eq, false_iff, iff_false, true_iff, iff_true]; omega)
      | omega)
    · exact ret_gen _ _ _ rfl rfl rfl ⟨_, _, _, rfl, hz, by omega, by omega, rfl⟩
    · refine ret_gen _ _ _ rfl rfl rfl ⟨_, _, _, ?_, ?_, ?_, ?_, rfl⟩
      · rw [List.length_set]; rfl
      · exact RsIn.set hz ⟨by simp only []; omega, (hat _ (by omega)).2⟩
      · omega
      · omega
    · refine ret_gen _ _ _ rfl rfl rfl ⟨_, _, _, ?_, ?_, ?_, ?_, rfl⟩
      · rw [List.length_set]; rfl
      · exact RsIn.set hz ⟨(hat _ (by omega)).1, by assumption⟩
      · omega
      · omega
    · refine Dm_loop [0, 3, 7, 8] (fun m ds H' => ∃ (ys : List Rcd) (j : Nat) (sec : Int) (hex : List UInt8) (a' s' : Int), ys.length ≤ 21 ∧ m = 21 - ys.length ∧ j < ys.length ∧ RsIn ys ∧ ((-1000000000 ≤ sec ∧ sec ≤ 1000000000) ∧ hex.length ≤ 1000) ∧ a ≤ a' ∧ a' + 4 * m ≤ a + 800 ∧
        ds = [.ptr 0 0 0, .own 1 0 ys.length, .p (.int .i64 j), .ptr 2 0 0] ∧ H' = [curO code a' s', .arr 58 2 (ys.map Rcd.pv), .box 58 [.p (.int .i64 sec), .p (.str hex)]]) (21 - zs.length) ⟨zs, _, _, _, _, _, by omega, rfl, ?_, hz, ?_, ?_, ?_, rfl, rfl⟩ ?_
      · omega
      · exact hat _ (by omega)
      · omega
      · omega
      · rintro m ds H' ⟨ys, j, sec, hex, a2, s2, hl2, rfl, hj, hy, hin, ha2, ham2, rfl, rfl⟩ -
        repeat' (first
          | (simp only [go_sem, Nat.lt_add_one, reduceIte, Nat.reduceEqDiff, Nat.reduceAdd, Nat.reduceMul, Nat.reduceLeDiff])
          | (simp (disch := omega) only [w64, List.take_length])
          | (refine Rm_need (by first | exact True.intro | omega | (simp; omega)) ?_)
          | (refine Rm_pick hc rfl (by omega) (by first | omega | (simp; omega)) (fun r a1 s1 q2 q3 q4 => ?_))
          | (refine Rm_one hc rfl (by omega) (by first | omega | (simp; omega)) (fun r a1 s1 q3 q4 => ?_))
          | (refine Rm_of 1000 hc rfl rfl rfl (by omega) (by omega) (by first | decide | omega) (by decide) (fun r a1 s1 q1 q2 q3 q4 => ?_); clear q2)
          | (refine Rm_among (-1000000000000) 1000000000000 hc rfl rfl rfl (by omega) (by omega) (by first | decide | (simp; omega)) (by decide) (fun r a1 s1 q1 q2 q5 q3 q4 => ?_); clear q5)
          | (refine put_RcdA (by omega) rfl ?_)
          | (rw [rcd_app])
          | (refine Rm_gi (by first | omega | (simp; omega)) ?_)
          | (refine Rm_gb (by first | omega | (simp; omega)) ?_)
          | (refine Rm_ga (by first | omega | (simp; omega)) _ rfl (Nat.le_of_ble_eq_true rfl) ?_)
          | (refine Rm_gm (by first | omega | (simp; omega)) _ rfl ?_)
          | (refine Rm_part _ _ rfl rfl ?_)
          | (refine Rm_puti (by first | omega | (simp; omega)) rfl ?_)
          | (refine Dm_draw [] (by simp) ?_)
          | (refine Tm_both ?_ ?_)
          | (refine Tm_fin (by simp only [hideOK, newsE]; simp []) ?_)
          | (refine Cm_split (fun h => ?_) (fun h => ?_) <;> (try (simp only [decide_eq_true_eq, decide_eq_false_iff_not] at h)) <;> (try omega))
          | (refine Gm_split (fun h => ?_) (fun h => ?_) <;> (try simp only [ne_eq, Bool.not_eq_true, Bool.not_eq_false] at h) <;> (try rw [h]) <;> (try (simp only [decide_eq_true_eq, decide_eq_false_iff_not, bne_iff_ne, beq_iff_eq, bne_eq_false_iff_eq, beq_eq_false_iff_ne, Bool.not_eq_true, Bool.not_eq_true', Bool.not_eq_false, Bool.not_eq_false', ne_eq, Bool.and_eq_true, Bool.or_eq_true, true_eq_decide_iff, false_eq_decide_iff] at h)) <;> (try omega))
          | (refine Sm_split (fun h => ?_) (fun h => ?_) <;> (try (simp only [decide_eq_true_eq, decide_eq_false_iff_not, bne_iff_ne, beq_iff_eq, bne_eq_false_iff_eq, beq_eq_false_iff_ne, Bool.not_eq_true, Bool.not_eq_true', Bool.not_eq_false, Bool.not_eq_false', ne_eq, Bool.and_eq_true, Bool.or_eq_true, true_eq_decide_iff, false_eq_decide_iff] at h)) <;> (try omega))
          | (exact ret_p rfl ⟨rfl, rfl⟩)
          | (refine ret_okv (by first | trivial | simp only [go_sem, detD, detDs, detP, and_self, and_true]) ?_)
          | (exact ret_gen _ _ _ rfl rfl rfl ⟨rfl, rfl⟩)
          | (simp only [Option.some.injEq, DV.tup.injEq, DV.p.injEq, List.cons.injEq, PV.int.injEq, PV.bool.injEq, PV.str.injEq, and_true, true_and])
          | rfl
          | (refine Bool.eq_iff_iff.2 ?_; simp only [decide_eq_true_eq, Bool.and_eq_true, Bool.or_eq_true, Bool.not_eq_true', decide_eq_false_iff_not, Bool.false_eq_true, beq_iff_eq, bne_iff_ne, ne_eq, false_iff, iff_false, true_iff, iff_true]; omega)
          | omega)
        · refine Xm_inv_n (21 - (ys.length + 1)) (by omega) ⟨ys ++ [⟨86400, [48]⟩], j, sec, hex, a1, s1, ?_, ?_, ?_, RsIn.app hy (by omega) ⟨by simp, by simp⟩, hin, ?_, ?_, ?_, rfl⟩
          · simp; omega
          · simp
          · simp; omega
          · omega
          · omega
          · rw [List.length_append]; rfl
        · refine ret_gen _ _ _ rfl rfl rfl ⟨_, _, _, ?_, ?_, ?_, ?_, rfl⟩
          · rw [List.length_set]; rfl
          · exact RsIn.set hy hin
          · omega
          · omega
    · refine ret_gen _ _ _ rfl rfl rfl ⟨_, _, _, ?_, ?_, ?_, ?_, rfl⟩
      · rw [List.length_set]; rfl
      · exact RsIn.set hz ⟨(hat _ (by omega)).1, (hat _ (by omega)).2⟩
      · omega
      · omega
  · have hf : ∀ k x y : Nat, (l2x (frT k x y) 14).length ≤ 1000 := hex_in
    repeat' (first
      | (simp only [go_sem, Nat.lt_add_one, reduceIte, Nat.reduceEqDiff, Nat.reduceAdd, Nat.reduceMul, Nat.reduceLeDiff, Nat.reduceLT])
      | (simp (disch := omega) only [w64, nsub1, List.take_length])
      | (refine Rm_need (by first | exact True.intro | omega | (simp; omega)) ?_)
      | (refine Rm_among 0 400 hc rfl rfl rfl (by omega) (by omega) (by first | decide | (simp; omega)) (by decide) (fun r a1 s1 q1 q2 q5 q3 q4 => ?_); clear q5)
      | (refine Rm_pick hc rfl (by omega) (by first | omega | (simp; omega)) (fun r a1 s1 q2 q3 q4 => ?_))
      | (refine Rm_one hc rfl (by omega) (by first | omega | (simp; omega)) (fun r a1 s1 q3 q4 => ?_))
      | (refine Rm_of 1000 hc rfl rfl rfl (by omega) (by omega) (by first | decide | omega) (by decide) (fun r a1 s1 q1 q2 q3 q4 => ?_); clear q2)
      | (refine Rm_among (-1000000000000) 1000000000000 hc rfl rfl rfl (by omega) (by omega) (by first | decide | (simp; omega)) (by decide) (fun r a1 s1 q1 q2 q5 q3 q4 => ?_); clear q5)
      | (rw [rcd_app])
      | (refine Rm_w rfl (k_l5Hex _ _ _ (by omega) (by omega) (by omega)) (by trivial) ?_)
      | (refine Rm_w ?_ (k_l5Hex _ _ _ (by omega) (by omega) (by omega)) (by trivial) ?_; · (simp [viewOfs, viewOf, List.take_of_length_le, cutL]; done))
      | (refine Rm_mc rfl rfl (k_frame _ _ _ hc (by omega)) (fun r H2 hh => ?_); obtain ⟨k, x, y, a1, s1, rfl, ⟨b1, b2, b3⟩, q3, q4, rfl⟩ := hh)
      | (refine Rm_gi (by first | omega | (simp; omega)) ?_)
      | (refine Rm_gb (by first | omega | (simp; omega)) ?_)
      | (refine Rm_ga (by first | omega | (simp; omega)) _ rfl (Nat.le_of_ble_eq_true rfl) ?_)
      | (refine Rm_gm (by first | omega | (simp; omega)) _ rfl ?_)
      | (refine Rm_part _ _ rfl rfl ?_)
      | (refine Rm_puti (by first | omega | (simp; omega)) rfl ?_)
      | (refine Dm_draw [] (by simp) ?_)
      | (refine Tm_both ?_ ?_)
      | (refine Tm_fin (by simp only [hideOK, newsE]; simp []) ?_)
      | (refine Cm_split (fun h => ?_) (fun h => ?_) <;> (try (simp only [decide_eq_true_eq, decide_eq_false_iff_not] at h)) <;> (try omega))
      | (refine Gm_split (fun h => ?_) (fun h => ?_) <;> (try simp only [ne_eq, Bool.not_eq_true, Bool.not_eq_false] at h) <;> (try rw [h]) <;> (try (simp only [decide_eq_true_eq, decide_eq_false_iff_not, bne_iff_ne, beq_iff_eq, bne_eq_false_iff_eq, beq_eq_false_iff_ne, Bool.not_eq_true, Bool.not_eq_true', Bool.not_eq_false, Bool.not_eq_false', ne_eq, Bool.and_eq_true, Bool.or_eq_true, true_eq_decide_iff, false_eq_decide_iff] at h)) <;> (try omega))
      | (refine Sm_split (fun h => ?_) (fun h => ?_) <;> (try (simp only [decide_eq_true_eq, decide_eq_false_iff_not, bne_iff_ne, beq_iff_eq, bne_eq_false_iff_eq, beq_eq_false_iff_ne, Bool.not_eq_true, Bool.not_eq_true', Bool.not_eq_false, Bool.not_eq_false', ne_eq, Bool.and_eq_true, Bool.or_eq_true, true_eq_decide_iff, false_eq_decide_iff] at h)) <;> (try omega))
      | (exact ret_p rfl ⟨rfl, rfl⟩)
      | (refine ret_okv (by first | trivial | simp only [go_sem, detD, detDs, detP, and_self, and_true]) ?_)
      | (exact ret_gen _ _ _ rfl rfl rfl ⟨rfl, rfl⟩)
      | (simp only [Option.some.injEq, DV.tup.injEq, DV.p.injEq, List.cons.injEq, PV.int.injEq, PV.bool.injEq, PV.str.injEq, and_true, true_and])
      | rfl
      | (refine Bool.eq_iff_iff.2 ?_; simp only [decide_eq_true_eq, Bool.and_eq_true, Bool.or_eq_true, Bool.not_eq_true', decide_eq_false_iff_not, Bool.false_eq_true, beq_iff_eq, bne_iff_ne, ne_eq, false_iff, iff_false, true_iff, iff_true]; omega)
      | omega)
    · refine Xm_inv_n m (by omega) ⟨_, t + r, _, _, ?_, RsIn.app hz (by omega) ?_, ?_, ?_, ?_, ?_, ?_, rfl⟩
      all_goals first
        | omega
        | (rw [List.length_append]; rfl)
        | (simp; omega)
        | (refine ⟨by simp only []; omega, ?_⟩; exact hf _ _ _)
        | skip
    · refine Xm_inv_n m (by omega) ⟨_, t + r, _, _, ?_, RsIn.app hz (by omega) ?_, ?_, ?_, ?_, ?_, ?_, rfl⟩
      all_goals first
        | omega
        | (rw [List.length_append]; rfl)
        | (simp; omega)
        | (refine ⟨by simp only []; omega, ?_⟩; simp only []; assumption)
        | skip
end Go.Proofs.Ytgpalnoopmjlpaa

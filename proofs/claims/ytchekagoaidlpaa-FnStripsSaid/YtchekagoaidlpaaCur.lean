import Derived.Test.YtchekagoaidlpaaBase
namespace Go.Proofs.Ytchekagoaidlpaa
open Go.Dv Go.Dv.EvL
attribute [local irreducible] Ok Rm Dm Om Sm Xm Cm Gm Hm Tm

/-! ### the cursor that draws -/
def codeP (code : List UInt8) : PV := .sl 1 (code.map fun b => .int .u8 b.toNat)
def curO (code : List UInt8) (a s : Int) : OB := .box 92 [.p (codeP code), .p (.int .i64 a), .p (.int .u64 s)]
theorem cur_eq (code : List UInt8) (a s : Int) : curO code a s = .box 92 [.p (codeP code), .p (.int .i64 a), .p (.int .u64 s)] := rfl
theorem and255 (k : IntKind) (x : Int) : 0 ≤ bitsV .and .u64 x 255 ∧ bitsV .and .u64 x 255 ≤ 255 := by
  have h1 : (BitVec.ofInt 64 x &&& BitVec.ofInt 64 255).toNat ≤ 255 := by
    rw [BitVec.toNat_and]
    exact Nat.le_trans Nat.and_le_right (by decide)
  have h2 : bitsV .and .u64 x 255 = IntKind.wrap .u64 (BitVec.ofInt 64 x &&& BitVec.ofInt 64 255).toNat := rfl
  rw [h2, IntWalk.u64_in _ (by omega)]
  omega

set_option maxRecDepth 100000 in
set_option maxHeartbeats 16000000 in
/-- spec.l1Cur.next -/
theorem k_next (code : List UInt8) (a s : Int) (hc : code.length ≤ 65536) (ha : 0 ≤ a ∧ a ≤ 1099511627776) : Ok Try.prog 107 [.ptr 0 0 0] [curO code a s]
    fun d H => ∃ r s' : Int, d = .p (.int .i64 r) ∧ 0 ≤ r ∧ r ≤ 255 ∧ H = [curO code (a + 1) s'] := by
  refine ok_D hmix c_spec_l1Cur_next (by simp) ?_
  rw [cur_eq]
  obtain ⟨n, rfl⟩ : ∃ n : Nat, a = n := ⟨a.toNat, by omega⟩
  simp only [envOf, envFrom, go_sem, reduceIte, Nat.reduceEqDiff, Nat.reduceAdd, Nat.reduceLeDiff, Bool.false_eq_true]
  repeat' (first
    | (simp only [go_sem, reduceIte, Nat.reduceEqDiff, Nat.reduceAdd, Nat.reduceLeDiff, Bool.false_eq_true])
    | (simp (disch := omega) only [w64, nadd1, Int.reduceToNat])
    | (refine Rm_need (by first | exact True.intro | omega | (simp; omega)) ?_)
    | (unfold codeP)
    | (simp only [IntKind.bits])
    | (refine Rm_gi (by first | omega | (simp; omega)) ?_)
    | (refine Rm_gb (by first | omega | (simp; omega)) ?_)
    | (refine Rm_ga (by first | omega | (simp; omega)) _ rfl (Nat.le_of_ble_eq_true rfl) ?_)
    | (refine Rm_gm (by first | omega | (simp; omega)) _ rfl ?_)
    | (refine Rm_part _ _ rfl rfl ?_)
    | (refine Rm_puti (by first | omega | (simp; omega)) rfl ?_)
    | (refine Dm_draw [] (by simp) ?_)
    | (refine Tm_both ?_ ?_)
    | (refine Tm_fin (by simp only [hideOK, newsE]; simp []) ?_)
    | (refine Cm_split (fun h => ?_) (fun h => ?_) <;> (try (simp only [decide_eq_true_eq, decide_eq_false_iff_not] at h)) <;> (try omega))
    | (refine Gm_split (fun h => ?_) (fun h => ?_) <;> (try simp only [ne_eq, Bool.not_eq_true, Bool.not_eq_false] at h) <;> (try rw [h]) <;> (try (simp only [decide_eq_true_eq, decide_eq_false_iff_not, bne_iff_ne, beq_iff_eq, bne_eq_false_iff_eq, beq_eq_false_iff_ne, Bool.not_eq_true, Bool.not_eq_true', Bool.not_eq_false, Bool.not_eq_false', ne_eq, Bool.and_eq_true, Bool.or_eq_true, true_eq_decide_iff, false_eq_decide_iff] at h)) <;> (try omega))
    | (refine Sm_split (fun h => ?_) (fun h => ?_) <;> (try (simp only [decide_eq_true_eq, decide_eq_false_iff_not, bne_iff_ne, beq_iff_eq, bne_eq_false_iff_eq, beq_eq_false_iff_ne, Bool.not_eq_true, Bool.not_eq_true', Bool.not_eq_false, Bool.not_eq_false', ne_eq, Bool.and_eq_true, Bool.or_eq_true, true_eq_decide_iff, false_eq_decide_iff] at h)) <;> (try omega))
    | (exact ret_p rfl ⟨rfl, rfl⟩)
    | (refine ret_okv (by first | trivial | simp only [go_sem, detD, detDs, detP, and_self, and_true]) ?_)
    | (exact ret_gen _ _ _ rfl rfl rfl ⟨rfl, rfl⟩)
    | (simp only [Option.some.injEq, DV.tup.injEq, DV.p.injEq, List.cons.injEq, PV.int.injEq, PV.bool.injEq, PV.str.injEq, and_true, true_and])
    | rfl
    | (refine Bool.eq_iff_iff.2 ?_; simp only [decide_eq_true_eq, Bool.and_eq_true, Bool.or_eq_true, Bool.not_eq_true', decide_eq_false_iff_not, Bool.false_eq_true, beq_iff_eq, bne_iff_ne, ne_eq, false_iff, iff_false, true_iff, iff_true]; omega)
    | omega)
  · have hb := u8_lt (code.getD n default)
    refine ret_gen _ _ _ rfl rfl rfl ⟨_, _, rfl, ?_, ?_, rfl⟩
    · rw [w64 (by omega)]; omega
    · rw [w64 (by omega)]; omega
  · refine ret_gen _ _ _ rfl rfl rfl ⟨_, _, rfl, ?_, ?_, rfl⟩
    · rw [w64 (by have := and255 .u64 ((IntKind.u64.wrap (IntKind.u64.wrap (IntKind.u64.wrap (s * 6364136223846793005) + IntKind.u64.wrap 0) + 875875)).fdiv (2 ^ min 40 64)); omega)]
      exact (and255 .u64 _).1
    · rw [w64 (by have := and255 .u64 ((IntKind.u64.wrap (IntKind.u64.wrap (IntKind.u64.wrap (s * 6364136223846793005) + IntKind.u64.wrap 0) + 875875)).fdiv (2 ^ min 40 64)); omega)]
      exact (and255 .u64 _).2

theorem tm_in {x n : Int} (hx : 0 ≤ x) (hn : 0 < n) : 0 ≤ x.tmod n ∧ x.tmod n < n := ⟨Int.tmod_nonneg n hx, Int.tmod_lt_of_pos x hn⟩
theorem take_getD {α : Type} {l : List α} {i m : Nat} {d : α} (h : i < m ∧ i < l.length) : l.getD i d ∈ l.take m := by
  have h2 : (l.take m)[i]? = some (l.getD i d) := by
    rw [List.getElem?_take, if_pos h.1, List.getElem?_eq_getElem h.2, List.getD_eq_getElem?_getD, List.getElem?_eq_getElem h.2]
    rfl
  exact List.mem_of_getElem? h2

set_option maxRecDepth 100000 in
set_option maxHeartbeats 16000000 in
/-- spec.l1Cur.pick -/
theorem k_pick (code : List UInt8) (a s n : Int) (hc : code.length ≤ 65536) (ha : 0 ≤ a ∧ a ≤ 1099511627770) (hn : n ≤ 1099511627776) : Ok Try.prog 88 [.ptr 0 0 0, .p (.int .i64 n)] [curO code a s]
    fun d H => ∃ r a' s' : Int, d = .p (.int .i64 r) ∧ 0 ≤ r ∧ (r < n ∨ r = 0) ∧ a ≤ a' ∧ a' ≤ a + 2 ∧ H = [curO code a' s'] := by
  refine ok_D hmix c_spec_l1Cur_pick (by simp) ?_
  have hk := fun (a s : Int) (h : 0 ≤ a ∧ a ≤ 1099511627776) => k_next code a s hc h
  simp only [envOf, envFrom, go_sem, reduceIte, Nat.reduceEqDiff]
  repeat' (first
    | (simp only [go_sem, reduceIte, Nat.reduceEqDiff])
    | (simp (disch := omega) only [w64])
    | (refine Rm_need (by first | exact True.intro | omega | (simp; omega)) ?_)
    | (refine Rm_i [0] (hk _ _ (by omega)) (by simp) (by simp) ⟨_, _, rfl, .inl rfl, rfl⟩ (fun r H2 hh => ?_); obtain ⟨x, s', rfl, hx0, hx1, rfl⟩ := hh; simp only [cur_eq])
    | (refine Rm_gi (by first | omega | (simp; omega)) ?_)
    | (refine Rm_gb (by first | omega | (simp; omega)) ?_)
    | (refine Rm_ga (by first | omega | (simp; omega)) _ rfl (Nat.le_of_ble_eq_true rfl) ?_)
    | (refine Rm_gm (by first | omega | (simp; omega)) _ rfl ?_)
    | (refine Rm_part _ _ rfl rfl ?_)
    | (refine Rm_puti (by first | omega | (simp; omega)) rfl ?_)
    | (refine Dm_draw [] (by simp) ?_)
    | (refine Tm_both ?_ ?_)
    | (refine Tm_fin (by simp only [hideOK, newsE]; simp []) ?_)
    | (refine Cm_split (fun h => ?_) (fun h => ?_) <;> (try (simp only [decide_eq_true_eq, decide_eq_false_iff_not] at h)) <;> (try omega))
    | (refine Gm_split (fun h => ?_) (fun h => ?_) <;> (try simp only [ne_eq, Bool.not_eq_true, Bool.not_eq_false] at h) <;> (try rw [h]) <;> (try (simp only [decide_eq_true_eq, decide_eq_false_iff_not, bne_iff_ne, beq_iff_eq, bne_eq_false_iff_eq, beq_eq_false_iff_ne, Bool.not_eq_true, Bool.not_eq_true', Bool.not_eq_false, Bool.not_eq_false', ne_eq, Bool.and_eq_true, Bool.or_eq_true, true_eq_decide_iff, false_eq_decide_iff] at h)) <;> (try omega))
    | (refine Sm_split (fun h => ?_) (fun h => ?_) <;> (try (simp only [decide_eq_true_eq, decide_eq_false_iff_not, bne_iff_ne, beq_iff_eq, bne_eq_false_iff_eq, beq_eq_false_iff_ne, Bool.not_eq_true, Bool.not_eq_true', Bool.not_eq_false, Bool.not_eq_false', ne_eq, Bool.and_eq_true, Bool.or_eq_true, true_eq_decide_iff, false_eq_decide_iff] at h)) <;> (try omega))
    | (exact ret_p rfl ⟨rfl, rfl⟩)
    | (refine ret_okv (by first | trivial | simp only [go_sem, detD, detDs, detP, and_self, and_true]) ?_)
    | (exact ret_gen _ _ _ rfl rfl rfl ⟨rfl, rfl⟩)
    | (simp only [Option.some.injEq, DV.tup.injEq, DV.p.injEq, List.cons.injEq, PV.int.injEq, PV.bool.injEq, PV.str.injEq, and_true, true_and])
    | rfl
    | (refine Bool.eq_iff_iff.2 ?_; simp only [decide_eq_true_eq, Bool.and_eq_true, Bool.or_eq_true, Bool.not_eq_true', decide_eq_false_iff_not, Bool.false_eq_true, beq_iff_eq, bne_iff_ne, ne_eq, false_iff, iff_false, true_iff, iff_true]; omega)
    | omega)
  · exact ret_gen _ _ _ rfl rfl rfl ⟨0, a, s, rfl, by omega, .inr rfl, by omega, by omega, rfl⟩
  · rename_i y s0 y0 y1
    obtain ⟨g1, g2⟩ := tm_in (x := y * 256 + x) (n := n) (by omega) (by omega)
    exact ret_gen _ _ _ rfl rfl rfl ⟨_, _, _, rfl, g1, .inl g2, by omega, by omega, rfl⟩
  · obtain ⟨g1, g2⟩ := tm_in (x := x) (n := n) (by omega) (by omega)
    exact ret_gen _ _ _ rfl rfl rfl ⟨_, _, _, rfl, g1, .inl g2, by omega, by omega, rfl⟩

set_option maxRecDepth 100000 in
set_option maxHeartbeats 16000000 in
/-- spec.l1Cur.one -/
theorem k_one (code : List UInt8) (a s n : Int) (hc : code.length ≤ 65536) (ha : 0 ≤ a ∧ a ≤ 1099511627770) (hn : n ≤ 1099511627776) : Ok Try.prog 90 [.ptr 0 0 0, .p (.int .i64 n)] [curO code a s]
    fun d H => ∃ (b : Bool) (a' s' : Int), d = .p (.bool b) ∧ a ≤ a' ∧ a' ≤ a + 2 ∧ H = [curO code a' s'] := by
  refine ok_D hmix c_spec_l1Cur_one (by simp) ?_
  have hk := k_pick code a s n hc ha hn
  simp only [envOf, envFrom, go_sem, reduceIte, Nat.reduceEqDiff]
  repeat' (first
    | (simp only [go_sem, reduceIte, Nat.reduceEqDiff])
    | (simp (disch := omega) only [w64, w8, bytesOf_cons, tmod10, tdiv10, tn48, nsub1, nadd1, nsub, nadd, nmul, List.take_length, Int.toNat_zero, Int.reduceAdd, Int.reduceSub, Int.reduceToNat, Int.reduceMul, Nat.sub_zero, Nat.min_self])
    | (refine Rm_need (by first | exact True.intro | omega | (simp; omega)) ?_)
    | (refine Rm_i [0] hk (by simp) (by simp) ⟨_, _, rfl, .inl rfl, _, _, rfl, .inl rfl, rfl⟩ (fun r H2 hh => ?_); obtain ⟨x, a', s', rfl, hx0, hx1, h1, h2, rfl⟩ := hh)
    | (refine Rm_gi (by first | omega | (simp; omega)) ?_)
    | (refine Rm_gb (by first | omega | (simp; omega)) ?_)
    | (refine Rm_ga (by first | omega | (simp; omega)) _ rfl (Nat.le_of_ble_eq_true rfl) ?_)
    | (refine Rm_gm (by first | omega | (simp; omega)) _ rfl ?_)
    | (refine Rm_part _ _ rfl rfl ?_)
    | (refine Rm_puti (by first | omega | (simp; omega)) rfl ?_)
    | (refine Dm_draw [] (by simp) ?_)
    | (refine Tm_both ?_ ?_)
    | (refine Tm_fin (by simp only [hideOK, newsE]; simp []) ?_)
    | (refine Cm_split (fun h => ?_) (fun h => ?_) <;> (try (simp only [decide_eq_true_eq, decide_eq_false_iff_not, bne_iff_ne, beq_iff_eq, bne_eq_false_iff_eq, beq_eq_false_iff_ne, Bool.not_eq_true, Bool.not_eq_true', Bool.not_eq_false, Bool.not_eq_false', ne_eq, Bool.and_eq_true, Bool.or_eq_true, true_eq_decide_iff, false_eq_decide_iff] at h)) <;> (try omega))
    | (refine Gm_split (fun h => ?_) (fun h => ?_) <;> (try simp only [ne_eq, Bool.not_eq_true, Bool.not_eq_false] at h) <;> (try rw [h]) <;> (try (simp only [decide_eq_true_eq, decide_eq_false_iff_not, bne_iff_ne, beq_iff_eq, bne_eq_false_iff_eq, beq_eq_false_iff_ne, Bool.not_eq_true, Bool.not_eq_true', Bool.not_eq_false, Bool.not_eq_false', ne_eq, Bool.and_eq_true, Bool.or_eq_true, true_eq_decide_iff, false_eq_decide_iff] at h)) <;> (try omega))
    | (refine Sm_split (fun h => ?_) (fun h => ?_) <;> (try (simp only [decide_eq_true_eq, decide_eq_false_iff_not, bne_iff_ne, beq_iff_eq, bne_eq_false_iff_eq, beq_eq_false_iff_ne, Bool.not_eq_true, Bool.not_eq_true', Bool.not_eq_false, Bool.not_eq_false', ne_eq, Bool.and_eq_true, Bool.or_eq_true, true_eq_decide_iff, false_eq_decide_iff] at h)) <;> (try omega))
    | (exact ret_p rfl ⟨rfl, rfl⟩)
    | (refine ret_okv (by first | trivial | simp only [go_sem, detD, detDs, detP, and_self, and_true]) ?_)
    | (exact ret_gen _ _ _ rfl rfl rfl ⟨rfl, rfl⟩)
    | (simp only [Option.some.injEq, DV.tup.injEq, DV.p.injEq, List.cons.injEq, PV.int.injEq, PV.bool.injEq, PV.str.injEq, and_true, true_and])
    | rfl
    | (refine Bool.eq_iff_iff.2 ?_; simp only [decide_eq_true_eq, Bool.and_eq_true, Bool.or_eq_true, Bool.not_eq_true', decide_eq_false_iff_not, Bool.false_eq_true, beq_iff_eq, bne_iff_ne, ne_eq, false_iff, iff_false, true_iff, iff_true]; omega)
    | omega)
  exact ret_gen _ _ _ rfl rfl rfl ⟨_, _, _, rfl, h1, h2, rfl⟩
set_option maxRecDepth 100000 in
set_option maxHeartbeats 16000000 in
/-- spec.l1Cur.among -/
theorem k_among (code : List UInt8) (a s : Int) (xs : List Int) (m : Nat) (hc : code.length ≤ 65536) (ha : 0 ≤ a ∧ a ≤ 1099511627770) (hm : 0 < m ∧ m ≤ xs.length ∧ m ≤ 1000) :
    Ok Try.prog 87 [.ptr 0 0 0, .own 1 0 m] [curO code a s, .arr 3 1 (xs.map (.int .i64))]
    fun d H => ∃ r a' s' : Int, d = .p (.int .i64 r) ∧ r ∈ xs.take m ∧ a ≤ a' ∧ a' ≤ a + 2 ∧ H = [curO code a' s', .arr 3 1 (xs.map (.int .i64))] := by
  refine ok_D hmix c_spec_l1Cur_among (by simp) ?_
  have hk := k_pick code a s m hc ha (by omega)
  simp only [envOf, envFrom, go_sem, reduceIte, Nat.reduceEqDiff, Nat.reduceAdd]
  repeat' (first
    | (simp only [go_sem, reduceIte, Nat.reduceEqDiff, Nat.reduceAdd])
    | (simp (disch := omega) only [w64, w8, bytesOf_cons, tmod10, tdiv10, tn48, nsub1, nadd1, nsub, nadd, nmul, List.take_length, Int.toNat_zero, Int.reduceAdd, Int.reduceSub, Int.reduceToNat, Int.reduceMul, Nat.sub_zero, Nat.min_self])
    | (refine Rm_need (by first | exact True.intro | omega | (simp; omega)) ?_)
    | (refine Rm_i [0] hk (by simp) (by simp) ⟨_, _, rfl, .inl rfl, _, _, rfl, .inl rfl, rfl⟩ (fun r H2 hh => ?_); obtain ⟨x, a', s', rfl, hx0, hx1, h1, h2, rfl⟩ := hh)
    | (refine Rm_gi (by first | omega | (simp; omega)) ?_)
    | (refine Rm_gb (by first | omega | (simp; omega)) ?_)
    | (refine Rm_ga (by first | omega | (simp; omega)) _ rfl (Nat.le_of_ble_eq_true rfl) ?_)
    | (refine Rm_gm (by first | omega | (simp; omega)) _ rfl ?_)
    | (refine Rm_part _ _ rfl rfl ?_)
    | (refine Rm_puti (by first | omega | (simp; omega)) rfl ?_)
    | (refine Dm_draw [] (by simp) ?_)
    | (refine Tm_both ?_ ?_)
    | (refine Tm_fin (by simp only [hideOK, newsE]; simp []) ?_)
    | (refine Cm_split (fun h => ?_) (fun h => ?_) <;> (try (simp only [decide_eq_true_eq, decide_eq_false_iff_not, bne_iff_ne, beq_iff_eq, bne_eq_false_iff_eq, beq_eq_false_iff_ne, Bool.not_eq_true, Bool.not_eq_true', Bool.not_eq_false, Bool.not_eq_false', ne_eq, Bool.and_eq_true, Bool.or_eq_true, true_eq_decide_iff, false_eq_decide_iff] at h)) <;> (try omega))
    | (refine Gm_split (fun h => ?_) (fun h => ?_) <;> (try simp only [ne_eq, Bool.not_eq_true, Bool.not_eq_false] at h) <;> (try rw [h]) <;> (try (simp only [decide_eq_true_eq, decide_eq_false_iff_not, bne_iff_ne, beq_iff_eq, bne_eq_false_iff_eq, beq_eq_false_iff_ne, Bool.not_eq_true, Bool.not_eq_true', Bool.not_eq_false, Bool.not_eq_false', ne_eq, Bool.and_eq_true, Bool.or_eq_true, true_eq_decide_iff, false_eq_decide_iff] at h)) <;> (try omega))
    | (refine Sm_split (fun h => ?_) (fun h => ?_) <;> (try (simp only [decide_eq_true_eq, decide_eq_false_iff_not, bne_iff_ne, beq_iff_eq, bne_eq_false_iff_eq, beq_eq_false_iff_ne, Bool.not_eq_true, Bool.not_eq_true', Bool.not_eq_false, Bool.not_eq_false', ne_eq, Bool.and_eq_true, Bool.or_eq_true, true_eq_decide_iff, false_eq_decide_iff] at h)) <;> (try omega))
    | (exact ret_p rfl ⟨rfl, rfl⟩)
    | (refine ret_okv (by first | trivial | simp only [go_sem, detD, detDs, detP, and_self, and_true]) ?_)
    | (exact ret_gen _ _ _ rfl rfl rfl ⟨rfl, rfl⟩)
    | (simp only [Option.some.injEq, DV.tup.injEq, DV.p.injEq, List.cons.injEq, PV.int.injEq, PV.bool.injEq, PV.str.injEq, and_true, true_and])
    | rfl
    | (refine Bool.eq_iff_iff.2 ?_; simp only [decide_eq_true_eq, Bool.and_eq_true, Bool.or_eq_true, Bool.not_eq_true', decide_eq_false_iff_not, Bool.false_eq_true, beq_iff_eq, bne_iff_ne, ne_eq, false_iff, iff_false, true_iff, iff_true]; omega)
    | omega)
  exact ret_gen _ _ _ rfl rfl rfl ⟨_, _, _, rfl, take_getD (by omega), h1, h2, rfl⟩
set_option maxRecDepth 100000 in
set_option maxHeartbeats 16000000 in
/-- spec.l1Cur.of -/
theorem k_of (code : List UInt8) (a s : Int) (xs : List (List UInt8)) (m : Nat) (hc : code.length ≤ 65536) (ha : 0 ≤ a ∧ a ≤ 1099511627770) (hm : 0 < m ∧ m ≤ xs.length ∧ m ≤ 1000) :
    Ok Try.prog 106 [.ptr 0 0 0, .own 1 0 m] [curO code a s, .arr 9 1 (xs.map .str)]
    fun d H => ∃ (r : List UInt8) (a' s' : Int), d = .p (.str r) ∧ r ∈ xs.take m ∧ a ≤ a' ∧ a' ≤ a + 2 ∧ H = [curO code a' s', .arr 9 1 (xs.map .str)] := by
  refine ok_D hmix c_spec_l1Cur_of (by simp) ?_
  have hk := k_pick code a s m hc ha (by omega)
  simp only [envOf, envFrom, go_sem, reduceIte, Nat.reduceEqDiff, Nat.reduceAdd]
  repeat' (first
    | (simp only [go_sem, reduceIte, Nat.reduceEqDiff, Nat.reduceAdd])
    | (simp (disch := omega) only [w64, w8, bytesOf_cons, tmod10, tdiv10, tn48, nsub1, nadd1, nsub, nadd, nmul, List.take_length, Int.toNat_zero, Int.reduceAdd, Int.reduceSub, Int.reduceToNat, Int.reduceMul, Nat.sub_zero, Nat.min_self])
    | (refine Rm_need (by first | exact True.intro | omega | (simp; omega)) ?_)
    | (refine Rm_i [0] hk (by simp) (by simp) ⟨_, _, rfl, .inl rfl, _, _, rfl, .inl rfl, rfl⟩ (fun r H2 hh => ?_); obtain ⟨x, a', s', rfl, hx0, hx1, h1, h2, rfl⟩ := hh)
    | (refine Rm_gi (by first | omega | (simp; omega)) ?_)
    | (refine Rm_gb (by first | omega | (simp; omega)) ?_)
    | (refine Rm_ga (by first | omega | (simp; omega)) _ rfl (Nat.le_of_ble_eq_true rfl) ?_)
    | (refine Rm_gm (by first | omega | (simp; omega)) _ rfl ?_)
    | (refine Rm_part _ _ rfl rfl ?_)
    | (refine Rm_puti (by first | omega | (simp; omega)) rfl ?_)
    | (refine Dm_draw [] (by simp) ?_)
    | (refine Tm_both ?_ ?_)
    | (refine Tm_fin (by simp only [hideOK, newsE]; simp []) ?_)
    | (refine Cm_split (fun h => ?_) (fun h => ?_) <;> (try (simp only [decide_eq_true_eq, decide_eq_false_iff_not, bne_iff_ne, beq_iff_eq, bne_eq_false_iff_eq, beq_eq_false_iff_ne, Bool.not_eq_true, Bool.not_eq_true', Bool.not_eq_false, Bool.not_eq_false', ne_eq, Bool.and_eq_true, Bool.or_eq_true, true_eq_decide_iff, false_eq_decide_iff] at h)) <;> (try omega))
    | (refine Gm_split (fun h => ?_) (fun h => ?_) <;> (try simp only [ne_eq, Bool.not_eq_true, Bool.not_eq_false] at h) <;> (try rw [h]) <;> (try (simp only [decide_eq_true_eq, decide_eq_false_iff_not, bne_iff_ne, beq_iff_eq, bne_eq_false_iff_eq, beq_eq_false_iff_ne, Bool.not_eq_true, Bool.not_eq_true', Bool.not_eq_false, Bool.not_eq_false', ne_eq, Bool.and_eq_true, Bool.or_eq_true, true_eq_decide_iff, false_eq_decide_iff] at h)) <;> (try omega))
    | (refine Sm_split (fun h => ?_) (fun h => ?_) <;> (try (simp only [decide_eq_true_eq, decide_eq_false_iff_not, bne_iff_ne, beq_iff_eq, bne_eq_false_iff_eq, beq_eq_false_iff_ne, Bool.not_eq_true, Bool.not_eq_true', Bool.not_eq_false, Bool.not_eq_false', ne_eq, Bool.and_eq_true, Bool.or_eq_true, true_eq_decide_iff, false_eq_decide_iff] at h)) <;> (try omega))
    | (exact ret_p rfl ⟨rfl, rfl⟩)
    | (refine ret_okv (by first | trivial | simp only [go_sem, detD, detDs, detP, and_self, and_true]) ?_)
    | (exact ret_gen _ _ _ rfl rfl rfl ⟨rfl, rfl⟩)
    | (simp only [Option.some.injEq, DV.tup.injEq, DV.p.injEq, List.cons.injEq, PV.int.injEq, PV.bool.injEq, PV.str.injEq, and_true, true_and])
    | rfl
    | (refine Bool.eq_iff_iff.2 ?_; simp only [decide_eq_true_eq, Bool.and_eq_true, Bool.or_eq_true, Bool.not_eq_true', decide_eq_false_iff_not, Bool.false_eq_true, beq_iff_eq, bne_iff_ne, ne_eq, false_iff, iff_false, true_iff, iff_true]; omega)
    | omega)
  exact ret_gen _ _ _ rfl rfl rfl ⟨_, _, _, rfl, take_getD (by omega), h1, h2, rfl⟩

set_option maxRecDepth 100000 in
/-- bytes, read -/
theorem open_bytes {xs : List PV} (h : PTy Try.prog 8 58 xs) : ∃ code : List UInt8, mkEl (aggB Try.prog 58) xs = codeP code ∧ code.length ≤ 9223372036854775807 := by
  have e : aggB Try.prog 58 = false := by kernel_rfl
  have e2 : aggB Try.prog 5 = false := by kernel_rfl
  have e3 : Try.prog.cellsOf 5 = 1 := by kernel_rfl
  obtain ⟨yss, rfl, hl, hy⟩ := pty_slice Try.underlying58 h
  obtain ⟨code, hc, _⟩ := els_of (ag := aggB Try.prog 5) (f := fun b : UInt8 => PV.int .u8 b.toNat) (G := fun _ => True) (fun ys hys => by
    obtain ⟨m, rfl, hm⟩ := pty_int Try.underlying5 hys
    have hb : 0 ≤ m ∧ m ≤ 255 := Go.bounds_u8 hm
    refine ⟨UInt8.ofNat m.toNat, ?_, trivial⟩
    rw [e2]
    show PV.int .u8 m = PV.int .u8 _
    rw [UInt8.toNat_ofNat_of_lt' (by show m.toNat < 256; omega)]
    congr 1
    omega) hy
  refine ⟨code, ?_, ?_⟩
  · rw [e, hc, e3]; rfl
  · have := congrArg List.length hc
    simp only [List.length_map] at this
    omega
end Go.Proofs.Ytchekagoaidlpaa

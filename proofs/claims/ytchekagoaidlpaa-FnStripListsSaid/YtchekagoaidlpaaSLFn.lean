import Derived.Test.YtchekagoaidlpaaSDrawL
import Derived.Test.YtchekagoaidlpaaStL
namespace Go.Proofs.Ytchekagoaidlpaa
open Go.Dv Go.Dv.EvL
attribute [local irreducible] Ok Rm Dm Om Sm Xm Cm Gm Hm Tm

theorem hidz (H : Heap) : hid 0 H = H := by simp [hid]
theorem k_DrawOrderStripsF (code : List UInt8) (hc : code.length ≤ 65536) : Okw Try.prog 45 [codeP code] fun d H => ∃ xs : List Stp, d = .p (.sl 4 (xs.map Stp.pv)) ∧ LsIn xs ∧ H = [] := by
  refine ok_frz (k_DrawOrderStrips code hc) fun d H h => ?_
  obtain ⟨xs, rfl, hx, rfl⟩ := h
  refine ⟨fun ob ho => by simp at ho, .p (.sl 4 (xs.map Stp.pv)), .inl ⟨_, ?_, rfl⟩, xs, rfl, hx, rfl⟩
  simp only [List.length_nil]
  rw [hidz]
  simp [viewOf, List.take_of_length_le]
theorem k_DrawStripsAtF (code : List UInt8) (hc : code.length ≤ 65536) : Okw Try.prog 49 [codeP code] fun d H => ∃ (xs : List Stp) (p : Txt) (f t : Int), d = .tup [.p (.sl 4 (xs.map Stp.pv)), .p (.str p), .p (.int .i64 f), .p (.int .i64 t)] ∧ LsIn xs ∧ p.length ≤ 1000 ∧ H = [] := by
  refine ok_frz (k_DrawStripsAt code hc) fun d H h => ?_
  obtain ⟨xs, p, f, t, rfl, hx, hp, _, _, rfl⟩ := h
  refine ⟨fun ob ho => by simp at ho, .tup [.p (.sl 4 (xs.map Stp.pv)), .p (.str p), .p (.int .i64 f), .p (.int .i64 t)], .inr ⟨_, [.sl 4 (xs.map Stp.pv), .str p, .int .i64 f, .int .i64 t], rfl, ?_, rfl⟩, xs, p, f, t, rfl, hx, hp, rfl⟩
  simp only [List.length_nil]
  rw [hidz]
  simp [viewOf, viewOfs, List.take_of_length_le]
theorem pl_txtL {f : FuncId} {xs : List PV} {o : List Txt × Bool} (h : Okw Try.prog f xs (TxN o)) : Okv Try.prog f xs (.tup [.p (.sl 1 (o.1.map .str)), .p (.bool o.2)]) := by
  refine ok_frz h fun d H h => ⟨fun ob ho => by simp at ho, _, ?_, rfl, by simp⟩
  obtain ⟨l, b⟩ := o
  rcases h with h | ⟨rfl, rfl, h⟩
  · obtain ⟨rfl, rfl⟩ := h
    refine .inr ⟨_, [.sl 1 (l.map .str), .bool b], rfl, ?_, rfl⟩
    simp [hid, viewOf, viewOfs, List.take_of_length_le]
  · simp only [] at h
    subst h
    exact .inr ⟨_, _, rfl, rfl, rfl⟩
set_option maxRecDepth 100000 in
set_option maxHeartbeats 16000000 in
/-- laws.rTexts -/
theorem k_rTextsL (xs : List Txt) (hb : xs.length ≤ 1048576) : Okv Try.prog 46 [.sl 1 (xs.map .str), .sl 1 (xs.map .str)] (.p (.bool true)) := by
  refine ok_D hmix c_laws_rTexts (by simp) ?_
  simp only [envOf, envFrom, go_sem, reduceIte, Nat.reduceEqDiff]
  repeat' (first
    | (simp only [go_sem, Nat.lt_add_one, Nat.zero_lt_one, reduceIte, Nat.reduceEqDiff, Nat.reduceBEq, Nat.reduceAdd, Nat.reduceSub, Nat.reduceMul, Nat.reduceLeDiff, Nat.reduceLT, Bool.false_eq_true])
    | (simp (disch := omega) only [w64, w8, bytesOf_cons, tmod10, tdiv10, tn48, nsub1, nadd1, nsub, nadd, nmul, List.take_length, Int.toNat_zero, Int.reduceAdd, Int.reduceSub, Int.reduceToNat, Int.reduceMul, Nat.sub_zero, Nat.min_self])
    | (refine Rm_need (by first | exact True.intro | omega | (simp; omega)) ?_)
    | (refine Rm_gi (by first | omega | (simp; omega)) ?_)
    | (refine Rm_gb (by first | omega | (simp; omega)) ?_)
    | (refine Rm_ga (by first | omega | (simp; omega)) _ rfl (Nat.le_of_ble_eq_true rfl) ?_)
    | (refine Rm_gm (by first | omega | (simp; omega)) _ rfl ?_)
    | (refine Rm_part _ _ rfl rfl ?_)
    | (refine Rm_puti (by first | omega | (simp; omega)) rfl ?_)
    | (refine Dm_draw [] (by simp) ?_)
    | (refine Tm_both ?_ ?_)
    | (refine Tm_fin (by simp only [hideOK, newsE]; simp []) ?_)
    | (refine Cm_split (fun h => ?_) (fun h => ?_) <;> (try (simp only [decide_eq_true_eq, decide_eq_false_iff_not, bne_iff_ne, beq_iff_eq, bne_eq_false_iff_eq, beq_eq_false_iff_ne, Bool.not_eq_true, Bool.not_eq_true', Bool.not_eq_false, Bool.not_eq_false', ne_eq, Bool.and_eq_true, Bool.or_eq_true, true_eq_decide_iff, false_eq_decide_iff] at h)) <;> (try omega))
    | (refine Gm_split (fun h => ?_) (fun h => ?_) <;> (try simp only [ne_eq, Bool.not_eq_true, Bool.not_eq_false] at h) <;> (try rw [h]) <;> (try (simp only [decide_eq_true_eq, decide_eq_false_iff_not, bne_iff_ne, beq_iff_eq, bne_eq_false_iff_eq, beq_eq_false_iff_ne, Bool.not_eq_true, Bool.not_eq_true', Bool.not_eq_false, Bool.not_eq_false', ne_eq, Bool.and_eq_true, Bool.or_eq_true, true_eq_decide_iff, false_eq_decide_iff] at h)) <;> (try omega))
    | (refine Sm_split (fun h => ?_) (fun h => ?_) <;> (try (simp only [decide_eq_true_eq, decide_eq_false_iff_not, bne_iff_ne, beq_iff_eq, bne_eq_false_iff_eq, beq_eq_false_iff_ne, Bool.not_eq_true, Bool.not_eq_true', Bool.not_eq_false, Bool.not_eq_false', ne_eq, Bool.and_eq_true, Bool.or_eq_true, true_eq_decide_iff, false_eq_decide_iff] at h)) <;> (try omega))
    | (exact ret_p rfl ⟨rfl, rfl⟩)
    | (refine ret_okv (by first | trivial | simp only [go_sem, detD, detDs, detP, and_self, and_true]) ?_)
    | (exact ret_gen _ _ _ rfl rfl rfl ⟨rfl, rfl⟩)
    | (simp only [Option.some.injEq, DV.tup.injEq, DV.p.injEq, List.cons.injEq, PV.int.injEq, PV.bool.injEq, PV.str.injEq, and_true, true_and])
    | rfl
    | (refine Bool.eq_iff_iff.2 ?_; simp only [decide_eq_true_eq, Bool.and_eq_true, Bool.or_eq_true, Bool.not_eq_true', decide_eq_false_iff_not, Bool.false_eq_true, beq_iff_eq, bne_iff_ne, ne_eq, false_iff, iff_false, true_iff, iff_true]; omega)
    | omega)
  refine Dm_loop [0, 1, 5] (fun m ds H' => ∃ i : Nat, i ≤ xs.length ∧ m = xs.length - i ∧ ds = [.p (.sl 1 (xs.map .str)), .p (.sl 1 (xs.map .str)), .p (.int .i64 i)] ∧ H' = []) xs.length ⟨0, by omega, by omega, rfl, rfl⟩ ?_
  rintro m ds H' ⟨i, hi, rfl, rfl, rfl⟩ -
  repeat' (first
    | (simp only [go_sem, reduceIte, Nat.reduceEqDiff])
    | (simp (disch := omega) only [w64, nadd1])
    | (refine Rm_need (by first | exact True.intro | omega | (simp; omega)) ?_)
    | (refine Rm_gi (by first | omega | (simp; omega)) ?_)
    | (refine Rm_gb (by first | omega | (simp; omega)) ?_)
    | (refine Rm_ga (by first | omega | (simp; omega)) _ rfl (Nat.le_of_ble_eq_true rfl) ?_)
    | (refine Rm_gm (by first | omega | (simp; omega)) _ rfl ?_)
    | (refine Rm_part _ _ rfl rfl ?_)
    | (refine Rm_puti (by first | omega | (simp; omega)) rfl ?_)
    | (refine Dm_draw [] (by simp) ?_)
    | (refine Tm_both ?_ ?_)
    | (refine Tm_fin (by simp only [hideOK, newsE]; simp []) ?_)
    | (refine Cm_split (fun h => ?_) (fun h => ?_) <;> (try (simp only [decide_eq_true_eq, decide_eq_false_iff_not] at h)) <;> (try omega))
    | (refine Gm_split (fun h => ?_) (fun h => ?_) <;> (try simp only [ne_eq, Bool.not_eq_true, Bool.not_eq_false] at h) <;> (try rw [h]) <;> (try (simp only [decide_eq_true_eq, decide_eq_false_iff_not, bne_iff_ne, beq_iff_eq, bne_eq_false_iff_eq, beq_eq_false_iff_ne, Bool.not_eq_true, Bool.not_eq_true', Bool.not_eq_false, Bool.not_eq_false', ne_eq, Bool.and_eq_true, Bool.or_eq_true, true_eq_decide_iff, false_eq_decide_iff] at h)) <;> (try omega))
    | (refine Sm_split (fun h => ?_) (fun h => ?_) <;> (try (simp only [decide_eq_true_eq, decide_eq_false_iff_not, bne_iff_ne, beq_iff_eq, bne_eq_false_iff_eq, beq_eq_false_iff_ne, Bool.not_eq_true, Bool.not_eq_true', Bool.not_eq_false, Bool.not_eq_false', ne_eq, Bool.and_eq_true, Bool.or_eq_true, true_eq_decide_iff, false_eq_decide_iff] at h)) <;> (try omega))
    | (exact ret_p rfl ⟨rfl, rfl⟩)
    | (refine ret_okv (by first | trivial | simp only [go_sem, detD, detDs, detP, and_self, and_true]) ?_)
    | (exact ret_gen _ _ _ rfl rfl rfl ⟨rfl, rfl⟩)
    | (simp only [Option.some.injEq, DV.tup.injEq, DV.p.injEq, List.cons.injEq, PV.int.injEq, PV.bool.injEq, PV.str.injEq, and_true, true_and])
    | rfl
    | (refine Bool.eq_iff_iff.2 ?_; simp only [decide_eq_true_eq, Bool.and_eq_true, Bool.or_eq_true, Bool.not_eq_true', decide_eq_false_iff_not, Bool.false_eq_true, beq_iff_eq, bne_iff_ne, ne_eq, false_iff, iff_false, true_iff, iff_true]; omega)
    | omega)
  exact Xm_inv_n (xs.length - (i + 1)) (by omega) ⟨i + 1, by omega, rfl, rfl, rfl⟩
set_option maxRecDepth 100000 in
set_option maxHeartbeats 16000000 in
/-- laws.rBig -/
theorem k_rBigL (code : List UInt8) (hl : code.length ≤ 9223372036854775807) : Okv Try.prog 44 [codeP code] (.p (.bool (decide (code.length > 65536)))) := by
  refine ok_D hmix c_laws_rBig (by simp) ?_
  unfold codeP
  simp only [envOf, envFrom, go_sem, reduceIte, Nat.reduceEqDiff]
  repeat' (first
    | (simp only [go_sem, reduceIte, Nat.reduceEqDiff])
    | (simp (disch := omega) only [w64, w8, bytesOf_cons, tmod10, tdiv10, tn48, nsub1, nadd1, nsub, nadd, nmul, List.take_length, Int.toNat_zero, Int.reduceAdd, Int.reduceSub, Int.reduceToNat, Int.reduceMul, Nat.sub_zero, Nat.min_self])
    | (refine Rm_need (by first | exact True.intro | omega | (simp; omega)) ?_)
    | (refine Rm_gi (by first | omega | (simp; omega)) ?_)
    | (refine Rm_gb (by first | omega | (simp; omega)) ?_)
    | (refine Rm_ga (by first | omega | (simp; omega)) _ rfl (Nat.le_of_ble_eq_true rfl) ?_)
    | (refine Rm_gm (by first | omega | (simp; omega)) _ rfl ?_)
    | (refine Rm_part _ _ rfl rfl ?_)
    | (refine Rm_puti (by first | omega | (simp; omega)) rfl ?_)
    | (refine Dm_draw [] (by simp) ?_)
    | (refine Tm_both ?_ ?_)
    | (refine Tm_fin (by simp only [hideOK, newsE]; simp []) ?_)
    | (refine Cm_split (fun h => ?_) (fun h => ?_) <;> (try (simp only [decide_eq_true_eq, decide_eq_false_iff_not, bne_iff_ne, beq_iff_eq, bne_eq_false_iff_eq, beq_eq_false_iff_ne, Bool.not_eq_true, Bool.not_eq_true', Bool.not_eq_false, Bool.not_eq_false', ne_eq, Bool.and_eq_true, Bool.or_eq_true, true_eq_decide_iff, false_eq_decide_iff] at h)) <;> (try omega))
    | (refine Gm_split (fun h => ?_) (fun h => ?_) <;> (try simp only [ne_eq, Bool.not_eq_true, Bool.not_eq_false] at h) <;> (try rw [h]) <;> (try (simp only [decide_eq_true_eq, decide_eq_false_iff_not, bne_iff_ne, beq_iff_eq, bne_eq_false_iff_eq, beq_eq_false_iff_ne, Bool.not_eq_true, Bool.not_eq_true', Bool.not_eq_false, Bool.not_eq_false', ne_eq, Bool.and_eq_true, Bool.or_eq_true, true_eq_decide_iff, false_eq_decide_iff] at h)) <;> (try omega))
    | (refine Sm_split (fun h => ?_) (fun h => ?_) <;> (try (simp only [decide_eq_true_eq, decide_eq_false_iff_not, bne_iff_ne, beq_iff_eq, bne_eq_false_iff_eq, beq_eq_false_iff_ne, Bool.not_eq_true, Bool.not_eq_true', Bool.not_eq_false, Bool.not_eq_false', ne_eq, Bool.and_eq_true, Bool.or_eq_true, true_eq_decide_iff, false_eq_decide_iff] at h)) <;> (try omega))
    | (exact ret_p rfl ⟨rfl, rfl⟩)
    | (refine ret_okv (by first | trivial | simp only [go_sem, detD, detDs, detP, and_self, and_true]) ?_)
    | (exact ret_gen _ _ _ rfl rfl rfl ⟨rfl, rfl⟩)
    | (simp only [Option.some.injEq, DV.p.injEq, PV.bool.injEq])
    | rfl
    | (refine Bool.eq_iff_iff.2 ?_; simp only [decide_eq_true_eq]; omega)
    | omega)
set_option maxRecDepth 100000 in
set_option maxHeartbeats 16000000 in
/-- laws.rHasText -/
theorem k_rHasText (xs : List Txt) (p : Txt) (hb : xs.length ≤ 1048576) (hp : p ∈ xs) : Okv Try.prog 48 [.sl 1 (xs.map .str), .str p] (.p (.bool true)) := by
  refine ok_D hmix c_laws_rHasText (by simp) ?_
  simp only [envOf, envFrom, go_sem]
  refine Dm_loop [0, 1, 5] (fun m ds H' => ∃ i : Nat, i ≤ xs.length ∧ m = xs.length - i ∧ (∀ j, j < i → xs.getD j [] ≠ p) ∧ ds = [.p (.sl 1 (xs.map .str)), .p (.str p), .p (.int .i64 i)] ∧ H' = []) xs.length ⟨0, by omega, by omega, fun j h => by omega, rfl, rfl⟩ ?_
  rintro m ds H' ⟨i, hi, rfl, hn, rfl, rfl⟩ -
  have hdf : (default : Txt) = [] := rfl
  have hno : i = xs.length → False := fun h => by
    obtain ⟨j, hj, e⟩ := List.mem_iff_getElem.1 hp
    refine hn j (by omega) ?_
    rw [List.getD_eq_getElem?_getD, List.getElem?_eq_getElem hj]
    exact e
  repeat' (first
    | (simp only [go_sem, reduceIte, Nat.reduceEqDiff, Bool.false_eq_true])
    | (simp (disch := omega) only [w64, nadd1])
    | (refine Rm_need (by first | exact True.intro | omega | (simp; omega)) ?_)
    | (rw [hdf])
    | (refine Rm_gi (by first | omega | (simp; omega)) ?_)
    | (refine Rm_gb (by first | omega | (simp; omega)) ?_)
    | (refine Rm_ga (by first | omega | (simp; omega)) _ rfl (Nat.le_of_ble_eq_true rfl) ?_)
    | (refine Rm_gm (by first | omega | (simp; omega)) _ rfl ?_)
    | (refine Rm_part _ _ rfl rfl ?_)
    | (refine Rm_puti (by first | omega | (simp; omega)) rfl ?_)
    | (refine Dm_draw [] (by simp) ?_)
    | (refine Tm_both ?_ ?_)
    | (refine Tm_fin (by simp only [hideOK, newsE]; simp []) ?_)
    | (refine Cm_split (fun h => ?_) (fun h => ?_) <;> (try (simp only [decide_eq_true_eq, decide_eq_false_iff_not, beq_iff_eq, beq_eq_false_iff_ne, ne_eq] at h)) <;> (try omega))
    | (refine Gm_split (fun h => ?_) (fun h => ?_) <;> (try simp only [ne_eq, Bool.not_eq_true, Bool.not_eq_false] at h) <;> (try rw [h]) <;> (try (simp only [decide_eq_true_eq, decide_eq_false_iff_not, bne_iff_ne, beq_iff_eq, bne_eq_false_iff_eq, beq_eq_false_iff_ne, Bool.not_eq_true, Bool.not_eq_true', Bool.not_eq_false, Bool.not_eq_false', ne_eq, Bool.and_eq_true, Bool.or_eq_true, true_eq_decide_iff, false_eq_decide_iff] at h)) <;> (try omega))
    | (refine Sm_split (fun h => ?_) (fun h => ?_) <;> (try (simp only [decide_eq_true_eq, decide_eq_false_iff_not, bne_iff_ne, beq_iff_eq, bne_eq_false_iff_eq, beq_eq_false_iff_ne, Bool.not_eq_true, Bool.not_eq_true', Bool.not_eq_false, Bool.not_eq_false', ne_eq, Bool.and_eq_true, Bool.or_eq_true, true_eq_decide_iff, false_eq_decide_iff] at h)) <;> (try omega))
    | (exact ret_p rfl ⟨rfl, rfl⟩)
    | (refine ret_okv (by first | trivial | simp only [go_sem, detD, detDs, detP, and_self, and_true]) ?_)
    | (exact ret_gen _ _ _ rfl rfl rfl ⟨rfl, rfl⟩)
    | (simp only [Option.some.injEq, DV.p.injEq, PV.bool.injEq])
    | rfl
    | (refine Bool.eq_iff_iff.2 ?_; simp only [decide_eq_true_eq, Bool.and_eq_true, Bool.or_eq_true, Bool.not_eq_true', decide_eq_false_iff_not, Bool.false_eq_true, beq_iff_eq, bne_iff_ne, ne_eq, false_iff, iff_false, true_iff, iff_true]; omega)
    | omega)
  all_goals first
    | (exact Xm_inv_n (xs.length - (i + 1)) (by omega) ⟨i + 1, by omega, rfl, fun j hj => by
        by_cases e : j = i
        · subst e; assumption
        · exact hn j (by omega), rfl, rfl⟩)
    | (exact absurd (by omega) hno)
    | skip
theorem part_lists (xs : List Stp) (hx : LsIn xs) : ∃ (N : List Txt) (b : Bool), Okv Try.prog 41 [.sl 4 (xs.map Stp.pv)] (.tup [.p (.sl 1 (N.map .str)), .p (.bool b)]) ∧ Okv Try.prog 40 [.sl 4 (xs.map Stp.pv)] (.tup [.p (.sl 1 (N.map .str)), .p (.bool b)]) ∧
    Okv Try.prog 46 [.sl 1 (N.map .str), .sl 1 (N.map .str)] (.p (.bool true)) ∧ ((b = false ∧ N = []) ∨ (b = true ∧ lsB xs = true ∧ N = (ordTo xs xs.length).map Stp.name)) := by
  have hf := ls_fits hx
  have hN : (ordO xs).1.length ≤ 1048576 := by
    unfold ordO
    split
    · simp only [List.length_map, ord_len]; exact hf.1
    · simp
  refine ⟨(ordO xs).1, (ordO xs).2, pl_txtL (k_iOrder xs hf), pl_txtL ((k_sOrder xs hf).mono fun _ _ h => .inl h), k_rTextsL _ hN, ?_⟩
  unfold ordO
  by_cases h : lsB xs = true
  · rw [if_pos h]; exact .inr ⟨rfl, h, rfl⟩
  · rw [if_neg h]; exact .inl ⟨rfl, rfl⟩
theorem part_at (xs : List Stp) (p : Txt) (f t : Int) (hx : LsIn xs) (hp : p.length ≤ 1000) : ∃ (N : List Txt) (b : Bool), Okv Try.prog 37 [.sl 4 (xs.map Stp.pv), .str p, .int .i64 f, .int .i64 t] (.tup [.p (.sl 1 (N.map .str)), .p (.bool b)]) ∧
    Okv Try.prog 35 [.sl 4 (xs.map Stp.pv), .str p, .int .i64 f, .int .i64 t] (.tup [.p (.sl 1 (N.map .str)), .p (.bool b)]) ∧ Okv Try.prog 46 [.sl 1 (N.map .str), .sl 1 (N.map .str)] (.p (.bool true)) := by
  have hf := ls_fits hx
  have hN : (atO xs p f t).1.length ≤ 1048576 := by
    unfold atO
    split
    · have := at_len (xs := xs) (p := p) (f := f) (t := t) (i := xs.length)
      have := hf.1
      simp only []
      omega
    · simp
  exact ⟨(atO xs p f t).1, (atO xs p f t).2, pl_txtL (k_iStripsAt xs p f t hf (by omega)), pl_txtL ((k_sStripsAt xs p f t hf (by omega)).mono fun _ _ h => .inl h), k_rTextsL _ hN⟩
theorem part_common (x y : Stp) (hx : StIn x) (hy : StIn y) : ∃ (N M : List Txt) (b : Bool), Okv Try.prog 28 [.agg [.str x.name, .int .i64 x.ht, .sl 1 (x.route.map .str), .int .i64 x.mn], .agg [.str y.name, .int .i64 y.ht, .sl 1 (y.route.map .str), .int .i64 y.mn]] (.tup [.p (.sl 1 (N.map .str)), .p (.bool b)]) ∧ Okv Try.prog 28 [.agg [.str y.name, .int .i64 y.ht, .sl 1 (y.route.map .str), .int .i64 y.mn], .agg [.str x.name, .int .i64 x.ht, .sl 1 (x.route.map .str), .int .i64 x.mn]] (.tup [.p (.sl 1 (M.map .str)), .p (.bool b)]) ∧
    Okv Try.prog 27 [.agg [.str x.name, .int .i64 x.ht, .sl 1 (x.route.map .str), .int .i64 x.mn], .agg [.str y.name, .int .i64 y.ht, .sl 1 (y.route.map .str), .int .i64 y.mn]] (.tup [.p (.sl 1 (N.map .str)), .p (.bool b)]) ∧ Okv Try.prog 46 [.sl 1 (N.map .str), .sl 1 (N.map .str)] (.p (.bool true)) ∧ M.length = N.length ∧ N.length ≤ 1048576 ∧
    (∀ p ∈ N, Okv Try.prog 48 [.sl 1 (x.route.map .str), .str p] (.p (.bool true)) ∧ Okv Try.prog 48 [.sl 1 (y.route.map .str), .str p] (.p (.bool true)) ∧ Okv Try.prog 48 [.sl 1 (M.map .str), .str p] (.p (.bool true))) := by
  have hfx := in_fits hx
  have hfy := in_fits hy
  obtain ⟨s1, s2⟩ := cm_sym (a := x) (b := y)
  have hN : (cmO x y).1.length ≤ 1048576 := by
    unfold cmO
    split
    · have := cm_len (xs := x.route) (ys := y.route) (i := x.route.length)
      have := hfx.2.1
      simp only []
      omega
    · simp
  have c2 := pl_txtL (k_iCommon y x hfy hfx)
  rw [← s1] at c2
  refine ⟨(cmO x y).1, (cmO y x).1, (cmO x y).2, pl_txtL (k_iCommon x y hfx hfy), c2, pl_txtL ((k_sCommon x y hfx hfy).mono fun _ _ h => .inl h), k_rTextsL _ hN, s2.symm, hN, fun p hp => ?_⟩
  obtain ⟨m1, m2, m3⟩ := cm_in hp
  exact ⟨k_rHasText _ p hfx.2.1 m1, k_rHasText _ p hfy.2.1 m2, k_rHasText _ p (by omega) m3⟩
end Go.Proofs.Ytchekagoaidlpaa

import Derived.Test.YtchekagoaidlpaaNest2
namespace Go.Proofs.Ytchekagoaidlpaa
open Go.Dv Go.Dv.EvL
attribute [local irreducible] Ok Rm Dm Om Sm Xm Cm Gm Hm Tm

theorem nest0_eq (xs : List Stp) : nestH xs 0 = .box 4194331 (cellsF 1 xs) :: rowsF xs := by
  rw [nest_eq]
  simp only [zc, List.append_nil]
set_option maxRecDepth 100000 in
set_option maxHeartbeats 16000000 in
/-- laws.markStripS -/
theorem k_markStripS (xs : List Stp) (k : Int) (hb : xs.length ≤ 1048576) (hs : (lens xs).sum ≤ 1048576) (hk : 0 < k ∧ k ≤ 4) : Ok Try.prog 39 [.own 0 0 xs.length, .p (.int .i64 k)] (nestH xs 0)
    fun d H => ∃ (k' : Int) (ys : List Stp), d = .p (.int .i64 k') ∧ 0 ≤ k' ∧ ys.length = xs.length ∧ H = nestH ys 0 := by
  refine ok_D hmix c_laws_markStripS (by simp) ?_
  rw [nest_len]
  simp only [envOf, envFrom, go_sem]
  repeat' (first
    | (simp only [go_sem, Nat.lt_add_one, Nat.zero_lt_one, reduceIte, Nat.reduceEqDiff, Nat.reduceBEq, Nat.reduceAdd, Nat.reduceSub, Nat.reduceMul, Nat.reduceLeDiff, Nat.reduceLT, Bool.false_eq_true])
    | (simp (disch := omega) only [w64, w8, bytesOf_cons, tmod10, tdiv10, tn48, nsub1, nadd1, nsub, nadd, nmul, List.take_length, Int.toNat_zero, Int.reduceAdd, Int.reduceSub, Int.reduceToNat, Int.reduceMul, Nat.sub_zero, Nat.min_self])
    | (refine Rm_need (by first | exact True.intro | omega | (simp; omega)) ?_)
    | (refine Rm_gi (by first | omega | (simp; omega)) ?_)
    | (refine Rm_gb (by first | omega | (simp; omega)) ?_)
    | (refine Rm_ga (by first | omega | (simp; omega)) _ rfl (Nat.le_of_ble_eq_true rfl) ?_)
    | (refine Rm_gm (by first | omega | (simp; omega)) _ rfl ?_)
    | (refine Rm_part _ _ rfl rfl ?_)
    | (refine Rm_puti (by first | omega | (simp; omega)) rfl ?_)
    | (refine Dm_draw [] (by simp) ?_)
    | (refine Tm_both ?_ ?_)
    | (refine Tm_fin (by simp only [hideOK, newsE]; simp []) ?_)
    | (refine Cm_split (fun h => ?_) (fun h => ?_) <;> (try (simp only [decide_eq_true_eq, decide_eq_false_iff_not, bne_iff_ne, beq_iff_eq, bne_eq_false_iff_eq, beq_eq_false_iff_ne, Bool.not_eq_true, Bool.not_eq_true', Bool.not_eq_false, Bool.not_eq_false', ne_eq, Bool.and_eq_true, Bool.or_eq_true, true_eq_decide_iff, false_eq_decide_iff] at h)) <;> (try omega))
    | (refine Gm_split (fun h => ?_) (fun h => ?_) <;> (try simp only [ne_eq, Bool.not_eq_true, Bool.not_eq_false] at h) <;> (try rw [h]) <;> (try (simp only [decide_eq_true_eq, decide_eq_false_iff_not, bne_iff_ne, beq_iff_eq, bne_eq_false_iff_eq, beq_eq_false_iff_ne, Bool.not_eq_true, Bool.not_eq_true', Bool.not_eq_false, Bool.not_eq_false', ne_eq, Bool.and_eq_true, Bool.or_eq_true, true_eq_decide_iff, false_eq_decide_iff] at h)) <;> (try omega))
    | (refine Sm_split (fun h => ?_) (fun h => ?_) <;> (try (simp only [decide_eq_true_eq, decide_eq_false_iff_not, bne_iff_ne, beq_iff_eq, bne_eq_false_iff_eq, beq_eq_false_iff_ne, Bool.not_eq_true, Bool.not_eq_true', Bool.not_eq_false, Bool.not_eq_false', ne_eq, Bool.and_eq_true, Bool.or_eq_true, true_eq_decide_iff, false_eq_decide_iff] at h)) <;> (try omega))
    | (exact ret_p rfl ⟨rfl, rfl⟩)
    | (refine ret_okv (by first | trivial | simp only [go_sem, detD, detDs, detP, and_self, and_true]) ?_)
    | (exact ret_gen _ _ _ rfl rfl rfl ⟨rfl, rfl⟩)
    | (simp only [Option.some.injEq, DV.tup.injEq, DV.p.injEq, List.cons.injEq, PV.int.injEq, PV.bool.injEq, PV.str.injEq, and_true, true_and])
    | rfl
    | (refine Bool.eq_iff_iff.2 ?_; simp only [decide_eq_true_eq, Bool.and_eq_true, Bool.or_eq_true, Bool.not_eq_true', decide_eq_false_iff_not, Bool.false_eq_true, beq_iff_eq, bne_iff_ne, ne_eq, false_iff, iff_false, true_iff, iff_true]; omega)
    | omega)
  have hp := fun (keep : List Nat) (env : Env) (x y : PV) (ys : List Stp) (hy : ys.length = xs.length) (hk : keep.map (get env) = [.own 0 0 xs.length, .p x, .p y]) => by
    have := pack_nest (nin := ys.length + 1) (xs := ys) (m := 0) hk (nest_ids (by simp [refsL, refs])) ren3b
    rw [hy] at this
    exact this
  refine Dm_loop [0, 1, 5] (fun m ds H' => ∃ (i : Nat) (ys : List Stp), i ≤ xs.length ∧ m = xs.length - i ∧ ys.length = xs.length ∧ lens ys = lens xs ∧ ds = [.own 0 0 xs.length, .p (.int .i64 (k + 3 * i + ((lens xs).take i).sum)), .p (.int .i64 i)] ∧ H' = nestH ys 0) xs.length
    ⟨0, xs, by omega, by omega, rfl, rfl, ?_, ?_⟩ ?_
  · refine Eq.trans (hp _ _ (.int .i64 k) (.int .i64 0) xs rfl ?_).1 ?_
    · rfl
    · simp
  · refine (hp _ _ (.int .i64 k) (.int .i64 0) xs rfl ?_).2
    rfl
  rintro m ds H' ⟨i, ys, hi, rfl, hyl, hyL, rfl, rfl⟩ -
  have hsp := sum_part (L := lens xs) (i := i)
  rcases Nat.lt_or_ge i xs.length with hlt | hge
  · have hst := sum_take (L := lens xs) (i := i) (by simp [lens]; omega)
    have hlg := lens_get (xs := ys) (i := i) (by omega)
    rw [hyL] at hlg
    have hsp1 := sum_part (L := lens xs) (i := i + 1)
    have hco := cells_own (ys := ys) (i := i) (b := 1) (by omega)
    have hcl := cells_len (b := 1) (xs := ys)
    have hRg : (rowsF ys)[i]? = some (.arr 9 1 ((ys.getD i default).route.map .str)) := by
      rw [rows_get (x := ys.getD i default) (by rw [List.getD_eq_getElem?_getD, List.getElem?_eq_getElem (show i < ys.length by omega)]; rfl)]
      rfl
    generalize hK : k + 3 * i + (((lens xs).take i).sum : Nat) = K at *
    have hmk := k_markStringS (ys.getD i default).route (K + 1 + 1) (by omega) (by omega)
    generalize hy' : (⟨mtO K, K + 1, mts (K + 1 + 1) (ys.getD i default).route.length, K + 1 + 1 + (ys.getD i default).route.length⟩ : Stp) = y'
    have hset := cells_set (y := y') (ys := ys) (i := i) (b := 1) (by omega) (by rw [← hy']; simp)
    have hrs := rows_set (ys := ys) (i := i) (y := y')
    have hnl : lens (ys.set i y') = lens xs := by rw [lens_set (by omega) (by rw [← hy']; simp), hyL]
    have hpn := fun (keep : List Nat) (env : Env) (x y : PV) => hp keep env x y (ys.set i y') (by simp [hyl])
    have heq : nestH (ys.set i y') 0 = .box 4194331 (setL (setL (setL (cellsF 1 ys) (i * 4) (.p (.str (mtO K)))) (i * 4 + 1) (.p (.int .i64 (K + 1)))) (i * 4 + 3) (.p (.int .i64 (K + 1 + 1 + (ys.getD i default).route.length)))) :: setL (rowsF ys) i (.arr 9 1 ((mts (K + 1 + 1) (ys.getD i default).route.length).map .str)) := by
      rw [nest0_eq, ← hset, ← hrs, ← hy']
      rfl
    rw [nest0_eq] at hpn ⊢
    rw [← hset, ← hrs, ← hy'] at hpn
    clear hp hset hrs
    simp only [rowF] at hpn
    generalize cellsF 1 ys = C at *
    generalize rowsF ys = R at *
    rw [Nat.add_comm 1 i] at hco
    have hld : ∀ a b : DV, (setL (setL C (i * 4) a) (i * 4 + 1) b)[i * 4 + 2]? = some (.own (i + 1) 0 (ys.getD i default).route.length) := fun a b => by
      rw [setL_eq, setL_eq, List.getElem?_set_ne (by omega), List.getElem?_set_ne (by omega), hco]
    have hop : ∀ ob : OB, heapOf [i + 1] (ob :: R) = [.arr 9 1 ((ys.getD i default).route.map .str)] := fun ob => by
      simp only [heapOf, List.map_cons, List.map_nil, List.getD_eq_getElem?_getD, List.getElem?_cons_succ, hRg, Option.getD_some]
      rfl
    have hsl : ∀ (D : List DV) (n : Nat) (a : DV), (setL D n a).length = D.length := fun D n a => setL_length D n a
    have hib : i + 1 < R.length + 1 := by have := lt_of_get hRg; omega
    repeat' (first
      | (simp only [go_sem, reduceIte, Nat.reduceEqDiff, Bool.false_eq_true])
      | (simp (disch := omega) only [w64, nadd1])
      | (refine Rm_need (by first | exact True.intro | omega | (simp; omega)) ?_)
      | (rw [if_pos (show 4 = rowK 4194331 from by decide)])
      | (rw [hsl])
      | (rw [if_pos (show i * 4 + 1 ≤ C.length by omega)])
      | (rw [if_pos (show i * 4 + 1 + 1 ≤ C.length by omega)])
      | (rw [if_pos (show i * 4 + 3 + 1 ≤ C.length by omega)])
      | (rw [hld])
      | (refine Rm_w rfl (k_markText _ (by omega)) (by trivial) ?_)
      | (refine Rm_w ?_ (k_markText _ (by omega)) (by trivial) ?_; · (simp [viewOfs, viewOf, List.take_of_length_le, cutL]; done))
      | (refine Rm_i [i + 1] ((hop _).symm ▸ hmk) (by simp) (by simp; omega) ⟨_, _, rfl, .inl (by simp [ren]), _, _, rfl, .inl rfl, rfl⟩ (fun r H2 hh => ?_); obtain ⟨rfl, rfl⟩ := hh)
      | (refine Rm_gi (by first | omega | (simp; omega)) ?_)
      | (refine Rm_gb (by first | omega | (simp; omega)) ?_)
      | (refine Rm_ga (by first | omega | (simp; omega)) _ rfl (Nat.le_of_ble_eq_true rfl) ?_)
      | (refine Rm_gm (by first | omega | (simp; omega)) _ rfl ?_)
      | (refine Rm_part _ _ rfl rfl ?_)
      | (refine Rm_puti (by first | omega | (simp; omega)) rfl ?_)
      | (refine Dm_draw [] (by simp) ?_)
      | (refine Tm_both ?_ ?_)
      | (refine Tm_fin (by simp only [hideOK, newsE]; simp []) ?_)
      | (refine Cm_split (fun h => ?_) (fun h => ?_) <;> (try (simp only [decide_eq_true_eq, decide_eq_false_iff_not] at h)) <;> (try omega))
      | (refine Gm_split (fun h => ?_) (fun h => ?_) <;> (try simp only [ne_eq, Bool.not_eq_true, Bool.not_eq_false] at h) <;> (try rw [h]) <;> (try (simp only [decide_eq_true_eq, decide_eq_false_iff_not, bne_iff_ne, beq_iff_eq, bne_eq_false_iff_eq, beq_eq_false_iff_ne, Bool.not_eq_true, Bool.not_eq_true', Bool.not_eq_false, Bool.not_eq_false', ne_eq, Bool.and_eq_true, Bool.or_eq_true, true_eq_decide_iff, false_eq_decide_iff] at h)) <;> (try omega))
      | (refine Sm_split (fun h => ?_) (fun h => ?_) <;> (try (simp only [decide_eq_true_eq, decide_eq_false_iff_not, bne_iff_ne, beq_iff_eq, bne_eq_false_iff_eq, beq_eq_false_iff_ne, Bool.not_eq_true, Bool.not_eq_true', Bool.not_eq_false, Bool.not_eq_false', ne_eq, Bool.and_eq_true, Bool.or_eq_true, true_eq_decide_iff, false_eq_decide_iff] at h)) <;> (try omega))
      | (exact ret_p rfl ⟨rfl, rfl⟩)
      | (refine ret_okv (by first | trivial | simp only [go_sem, detD, detDs, detP, and_self, and_true]) ?_)
      | (exact ret_gen _ _ _ rfl rfl rfl ⟨rfl, rfl⟩)
      | (simp only [Option.some.injEq, DV.tup.injEq, DV.p.injEq, List.cons.injEq, PV.int.injEq, PV.bool.injEq, PV.str.injEq, and_true, true_and])
      | rfl
      | (refine Bool.eq_iff_iff.2 ?_; simp only [decide_eq_true_eq, Bool.and_eq_true, Bool.or_eq_true, Bool.not_eq_true', decide_eq_false_iff_not, Bool.false_eq_true, beq_iff_eq, bne_iff_ne, ne_eq, false_iff, iff_false, true_iff, iff_true]; omega)
      | omega)
    have hK' : K + 1 + 1 + ((ys.getD i default).route.length : Int) + 1 = k + 3 * ((i + 1 : Nat) : Int) + (((lens xs).take (i + 1)).sum : Nat) := by omega
    rw [hK']
    refine Xm_inv_n (xs.length - (i + 1)) (by omega) ⟨i + 1, ys.set i y', by omega, rfl, by simp [hyl], hnl, ?_, ?_⟩
    · refine (hpn _ _ (.int .i64 (k + 3 * ((i + 1 : Nat) : Int) + (((lens xs).take (i + 1)).sum : Nat))) (.int .i64 ((i + 1 : Nat) : Int)) ?_).1
      rfl
    · refine Eq.trans (hpn _ _ (.int .i64 (k + 3 * ((i + 1 : Nat) : Int) + (((lens xs).take (i + 1)).sum : Nat))) (.int .i64 ((i + 1 : Nat) : Int)) ?_).2 heq.symm
      rfl
  · obtain rfl : i = xs.length := by omega
    rw [nest0_eq]
    repeat' (first
      | (simp only [go_sem, reduceIte, Nat.reduceEqDiff])
      | (simp (disch := omega) only [w64, w8, bytesOf_cons, tmod10, tdiv10, tn48, nsub1, nadd1, nsub, nadd, nmul, List.take_length, Int.toNat_zero, Int.reduceAdd, Int.reduceSub, Int.reduceToNat, Int.reduceMul, Nat.sub_zero, Nat.min_self])
      | (refine Rm_need (by first | exact True.intro | omega | (simp; omega)) ?_)
      | (refine Rm_gi (by first | omega | (simp; omega)) ?_)
      | (refine Rm_gb (by first | omega | (simp; omega)) ?_)
      | (refine Rm_ga (by first | omega | (simp; omega)) _ rfl (Nat.le_of_ble_eq_true rfl) ?_)
      | (refine Rm_gm (by first | omega | (simp; omega)) _ rfl ?_)
      | (refine Rm_part _ _ rfl rfl ?_)
      | (refine Rm_puti (by first | omega | (simp; omega)) rfl ?_)
      | (refine Dm_draw [] (by simp) ?_)
      | (refine Tm_both ?_ ?_)
      | (refine Tm_fin (by simp only [hideOK, newsE]; simp []) ?_)
      | (refine Cm_split (fun h => ?_) (fun h => ?_) <;> (try (simp only [decide_eq_true_eq, decide_eq_false_iff_not] at h)) <;> (try omega))
      | (refine Gm_split (fun h => ?_) (fun h => ?_) <;> (try simp only [ne_eq, Bool.not_eq_true, Bool.not_eq_false] at h) <;> (try rw [h]) <;> (try (simp only [decide_eq_true_eq, decide_eq_false_iff_not, bne_iff_ne, beq_iff_eq, bne_eq_false_iff_eq, beq_eq_false_iff_ne, Bool.not_eq_true, Bool.not_eq_true', Bool.not_eq_false, Bool.not_eq_false', ne_eq, Bool.and_eq_true, Bool.or_eq_true, true_eq_decide_iff, false_eq_decide_iff] at h)) <;> (try omega))
      | (refine Sm_split (fun h => ?_) (fun h => ?_) <;> (try (simp only [decide_eq_true_eq, decide_eq_false_iff_not, bne_iff_ne, beq_iff_eq, bne_eq_false_iff_eq, beq_eq_false_iff_ne, Bool.not_eq_true, Bool.not_eq_true', Bool.not_eq_false, Bool.not_eq_false', ne_eq, Bool.and_eq_true, Bool.or_eq_true, true_eq_decide_iff, false_eq_decide_iff] at h)) <;> (try omega))
      | (exact ret_p rfl ⟨rfl, rfl⟩)
      | (refine ret_okv (by first | trivial | simp only [go_sem, detD, detDs, detP, and_self, and_true]) ?_)
      | (exact ret_gen _ _ _ rfl rfl rfl ⟨rfl, rfl⟩)
      | (simp only [Option.some.injEq, DV.tup.injEq, DV.p.injEq, List.cons.injEq, PV.int.injEq, PV.bool.injEq, PV.str.injEq, and_true, true_and])
      | rfl
      | (refine Bool.eq_iff_iff.2 ?_; simp only [decide_eq_true_eq, Bool.and_eq_true, Bool.or_eq_true, Bool.not_eq_true', decide_eq_false_iff_not, Bool.false_eq_true, beq_iff_eq, bne_iff_ne, ne_eq, false_iff, iff_false, true_iff, iff_true]; omega)
      | omega)
    refine ret_gen _ _ (nestH ys 0) rfl rfl ?_ ⟨_, ys, rfl, by omega, hyl, rfl⟩
    rw [← nest0_eq]
    show heapOf (idsOf (xs.length + 1) _ _) _ = _
    rw [← hyl]
    exact (congrArg (fun l => heapOf l (nestH ys 0)) (nest_ids (ds := [.p (.int .i64 0)]) (by simp [refsL, refs]))).trans nest_id
end Go.Proofs.Ytchekagoaidlpaa

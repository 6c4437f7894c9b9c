import Derived.Test.YtchekagoaidlpaaNest3
import Derived.Test.YtchekagoaidlpaaSp19
namespace Go.Proofs.Ytchekagoaidlpaa
open Go.Dv Go.Dv.EvL
attribute [local irreducible] Ok Rm Dm Om Sm Xm Cm Gm Hm Tm

/-! ### such a row among others -/
theorem bk_cells {n : Nat} : ∀ {xs : List Stp} {b : Nat}, bkL [] n (cellsF b xs) = cellsF (n + b) xs
  | [], b => rfl
  | s :: t, b => by
    have ih := bk_cells (n := n) (xs := t) (b := b + 1)
    simp only [cellsF, bkL, bk, ih, backI_nil]
    rfl
theorem bk_rows {ids : List Nat} {n : Nat} {xs : List Stp} : (rowsF xs).map (bkB ids n) = rowsF xs := by
  unfold rowsF
  rw [List.map_map]
  rfl
theorem bk_nest {xs : List Stp} : (nestH xs 0).map (bkB [] 1) = .box 4194331 (cellsF 2 xs) :: rowsF xs := by
  rw [nest0_eq, List.map_cons, bk_rows, bkB, bk_cells]
theorem ren_seg {N i o l : Nat} (h1 : 1 ≤ i) (h : i < 1 + N) : ren (List.range' 1 N) (.own i o l) = .own (i - 1) o l := by
  have hc : (List.range' 1 N).contains i = true := by simp [List.mem_range'_1]; omega
  rw [ren, if_pos hc]
  congr 1
  have := idx_get hc
  have hl := lt_of_get this
  rw [List.getElem?_range' (by simpa using hl)] at this
  have := Option.some.inj this
  omega
theorem renL_seg {N : Nat} : ∀ {xs : List Stp} {b : Nat}, 1 ≤ b → b + xs.length ≤ 1 + N → renL (List.range' 1 N) (cellsF b xs) = cellsF (b - 1) xs
  | [], b, _, _ => rfl
  | s :: t, b, h1, h => by
    simp only [List.length_cons] at h
    have ih := renL_seg (N := N) (xs := t) (b := b + 1) (by omega) (by omega)
    simp only [cellsF, renL, ih]
    rw [ren_seg h1 (by omega), show b + 1 - 1 = b - 1 + 1 from by omega]
    rfl
theorem seg_heap {w : OB} {T : Heap} {xs : List Stp} : heapOf (List.range' 1 (xs.length + 1)) (w :: .box 4194331 (cellsF 2 xs) :: (rowsF xs ++ T)) = nestH xs 0 := by
  rw [nest0_eq]
  unfold heapOf
  have hR : (rowsF xs).length = xs.length := by simp [rowsF]
  refine List.ext_getElem? fun i => ?_
  rw [List.getElem?_map]
  by_cases hi : i < xs.length + 1
  · rw [List.getElem?_range' hi, Option.map_some]
    cases i with
    | zero =>
      show some (renB _ (.box 4194331 (cellsF 2 xs))) = some _
      rw [renB, renL_seg (by omega) (by omega)]
    | succ i =>
      rw [List.getElem?_cons_succ, List.getD_eq_getElem?_getD, show 1 + 1 * (i + 1) = i + 1 + 1 from by omega, List.getElem?_cons_succ, List.getElem?_cons_succ, List.getElem?_append_left (by omega), List.getElem?_eq_getElem (by omega), Option.getD_some]
      congr 1
      unfold rowsF
      rw [List.getElem_map]
      rfl
  · rw [List.getElem?_eq_none (by simp; omega), List.getElem?_eq_none (by simp; omega)]
    rfl
theorem put_seg : ∀ {B bs T : Heap} {A : Heap}, bs.length = B.length → putAll (A ++ (B ++ T)) (List.range' A.length B.length) bs = A ++ (bs ++ T)
  | [], bs, T, A, h => by
    have : bs = [] := List.eq_nil_of_length_eq_zero h
    subst this
    rfl
  | b :: B, [], T, A, h => by simp at h
  | b :: B, c :: bs, T, A, h => by
    have ih := put_seg (B := B) (bs := bs) (T := T) (A := A ++ [c]) (by simpa using h)
    rw [List.length_cons, List.range'_succ, putAll, setL_eq]
    have e : (A ++ (b :: B ++ T)).set A.length c = (A ++ [c]) ++ (B ++ T) := by
      rw [List.set_append_right _ _ (Nat.le_refl _), Nat.sub_self]
      simp
    rw [e]
    rw [List.length_append, List.length_cons, List.length_nil] at ih
    rw [ih]
    simp
/-- what comes back in its place -/
theorem seg_merge {w : OB} {T : Heap} {b : OB} {R H2 : Heap} (h : H2.length = R.length + 1) : ∃ (b' : OB) (R' : Heap), R'.length = R.length ∧ mergeH (List.range' 1 (R.length + 1)) (w :: b :: (R ++ T)) H2 = w :: b' :: (R' ++ T) := by
  cases H2 with
  | nil => simp at h
  | cons c H2 =>
    have hl : H2.length = R.length := by simpa using h
    refine ⟨bkB (List.range' 1 (R.length + 1)) (w :: b :: (R ++ T)).length c, H2.map (bkB (List.range' 1 (R.length + 1)) (w :: b :: (R ++ T)).length), by simp [hl], ?_⟩
    unfold mergeH
    rw [List.length_range', List.take_of_length_le (by simp [hl]), List.drop_of_length_le (by simp [hl]), List.map_nil, List.append_nil]
    generalize (w :: b :: (R ++ T)).length = n
    have := put_seg (A := [w]) (B := b :: R) (T := T) (bs := (c :: H2).map (bkB (List.range' 1 (R.length + 1)) n)) (by simp [hl])
    exact this
theorem app_at {R : Heap} {g : OB} : (R ++ [g])[R.length]? = some g := by simp
theorem app_set {R : Heap} {g g' : OB} : setL (R ++ [g]) R.length g' = R ++ [g'] := by
  rw [setL_eq, List.set_append_right _ _ (Nat.le_refl _), Nat.sub_self]
  rfl
/-! sizes -/
def szLs (xs : List Stp) : Nat := xs.length + (xs.map Stp.size).sum
theorem szs_get {xs : List Stp} {i : Nat} (h : i < xs.length) : (xs.map Stp.size).getD i 0 = (xs.getD i default).size := by
  simp [List.getD_eq_getElem?_getD, List.getElem?_map, List.getElem?_eq_getElem h]
theorem sz_take {xs : List Stp} {i : Nat} (h : i < xs.length) : ((xs.take (i + 1)).map Stp.size).sum = ((xs.take i).map Stp.size).sum + (xs.getD i default).size := by
  have h1 := sum_take (L := xs.map Stp.size) (i := i) (by simpa using h)
  rw [szs_get h, ← List.map_take, ← List.map_take] at h1
  exact h1
theorem sz_part {xs : List Stp} {i : Nat} : ((xs.take i).map Stp.size).sum ≤ (xs.map Stp.size).sum := by
  have h1 := sum_part (L := xs.map Stp.size) (i := i)
  rw [← List.map_take] at h1
  exact h1
set_option maxRecDepth 100000 in
set_option maxHeartbeats 16000000 in
/-- laws.szStripS -/
theorem k_szStripS (xs : List Stp) (n : Int) (hn : 0 ≤ n ∧ n ≤ 1048576) (hl : xs.length ≤ 9223372036854775807) (hr : ∀ x ∈ xs, x.bds) : Okv Try.prog 34 [.sl 4 (xs.map Stp.pv), .int .i64 n] (.p (.int .i64 (szO n (szLs xs)))) := by
  refine ok_D hmix c_laws_szStripS (by simp) ?_
  have hz : szLs xs = xs.length + (xs.map Stp.size).sum := rfl
  have hs : szO n (szLs xs) = if n < szLs xs then -1 else n - szLs xs := rfl
  simp only [envOf, envFrom, go_sem, reduceIte, Nat.reduceEqDiff]
  repeat' (first
    | (simp only [go_sem, reduceIte, Nat.reduceEqDiff])
    | (simp (disch := omega) only [w64])
    | (refine Rm_need (by first | exact True.intro | omega | (simp; omega)) ?_)
    | (refine Rm_gi (by first | omega | (simp; omega)) ?_)
    | (refine Rm_gb (by first | omega | (simp; omega)) ?_)
    | (refine Rm_ga (by first | omega | (simp; omega)) _ rfl (Nat.le_of_ble_eq_true rfl) ?_)
    | (refine Rm_gm (by first | omega | (simp; omega)) _ rfl ?_)
    | (refine Rm_part _ _ rfl rfl ?_)
    | (refine Rm_puti (by first | omega | (simp; omega)) rfl ?_)
    | (refine Dm_draw [] (by simp) ?_)
    | (refine Tm_both ?_ ?_)
    | (refine Tm_fin (by simp only [hideOK, newsE]; simp []) ?_)
    | (refine Cm_split (fun h => ?_) (fun h => ?_) <;> (try (simp only [decide_eq_true_eq, decide_eq_false_iff_not] at h)) <;> (try omega))
    | (refine Gm_split (fun h => ?_) (fun h => ?_) <;> (try simp only [ne_eq, Bool.not_eq_true, Bool.not_eq_false] at h) <;> (try rw [h]) <;> (try (simp only [decide_eq_true_eq, decide_eq_false_iff_not, bne_iff_ne, beq_iff_eq, bne_eq_false_iff_eq, beq_eq_false_iff_ne, Bool.not_eq_true, Bool.not_eq_true', Bool.not_eq_false, Bool.not_eq_false', ne_eq, Bool.and_eq_true, Bool.or_eq_true, true_eq_decide_iff, false_eq_decide_iff] at h)) <;> (try omega))
    | (refine Sm_split (fun h => ?_) (fun h => ?_) <;> (try (simp only [decide_eq_true_eq, decide_eq_false_iff_not, bne_iff_ne, beq_iff_eq, bne_eq_false_iff_eq, beq_eq_false_iff_ne, Bool.not_eq_true, Bool.not_eq_true', Bool.not_eq_false, Bool.not_eq_false', ne_eq, Bool.and_eq_true, Bool.or_eq_true, true_eq_decide_iff, false_eq_decide_iff] at h)) <;> (try omega))
    | (exact ret_p rfl ⟨rfl, rfl⟩)
    | (refine ret_okv (by first | trivial | simp only [go_sem, detD, detDs, detP, and_self, and_true]) ?_)
    | (exact ret_gen _ _ _ rfl rfl rfl ⟨rfl, rfl⟩)
    | (simp only [Option.some.injEq, DV.p.injEq, PV.int.injEq, true_and])
    | rfl
    | (refine Bool.eq_iff_iff.2 ?_; simp only [decide_eq_true_eq, Bool.and_eq_true, Bool.or_eq_true, Bool.not_eq_true', decide_eq_false_iff_not, Bool.false_eq_true, beq_iff_eq, bne_iff_ne, ne_eq, false_iff, iff_false, true_iff, iff_true]; omega)
    | omega)
  all_goals first
    | (grind)
    | skip
  · refine Dm_loop [0, 1, 5] (fun m ds H' => ∃ i : Nat, i ≤ xs.length ∧ m = xs.length - i ∧ 0 ≤ n - xs.length - (((xs.take i).map Stp.size).sum : Nat) ∧ ds = [.p (.sl 4 (xs.map Stp.pv)), .p (.int .i64 (n - xs.length - (((xs.take i).map Stp.size).sum : Nat))), .p (.int .i64 i)] ∧ H' = []) xs.length ⟨0, by omega, by omega, by simp; omega, by simp; rfl, rfl⟩ ?_
    rintro m ds H' ⟨i, hi, rfl, h0, rfl, rfl⟩ -
    have h2 := sz_part (xs := xs) (i := i)
    rcases Nat.lt_or_ge i xs.length with hlt | hge
    · have h1 := sz_take hlt
      have h3 := sz_part (xs := xs) (i := i + 1)
      have h4 := k_szStrip (xs.getD i default) (n - xs.length - (((xs.take i).map Stp.size).sum : Nat)) (by omega) (hr _ (getD_mem hlt))
      have h5 : szO (n - xs.length - (((xs.take i).map Stp.size).sum : Nat)) (xs.getD i default).size = if n - xs.length - (((xs.take i).map Stp.size).sum : Nat) < (xs.getD i default).size then -1 else n - xs.length - (((xs.take i).map Stp.size).sum : Nat) - (xs.getD i default).size := rfl
      generalize szO (n - xs.length - (((xs.take i).map Stp.size).sum : Nat)) (xs.getD i default).size = z at *
      simp only [stp_pv] at h4
      rw [h1] at h3
      by_cases hz2 : n - xs.length - (((xs.take i).map Stp.size).sum : Nat) < (xs.getD i default).size
      · rw [if_pos hz2] at h5
        subst h5
        have hs2 : szO n (szLs xs) = -1 := by rw [hs, if_pos (by omega)]
        rw [hs2]
        repeat' (first
          | (simp only [go_sem, reduceIte, Nat.reduceEqDiff])
          | (simp (disch := omega) only [w64, w8, bytesOf_cons, tmod10, tdiv10, tn48, nsub1, nadd1, nsub, nadd, nmul, List.take_length, Int.toNat_zero, Int.reduceAdd, Int.reduceSub, Int.reduceToNat, Int.reduceMul, Nat.sub_zero, Nat.min_self])
          | (refine Rm_need (by first | exact True.intro | omega | (simp; omega)) ?_)
          | (refine Rm_w rfl (h4) (by trivial) ?_)
          | (refine Rm_w ?_ (h4) (by trivial) ?_; · (simp [viewOfs, viewOf, List.take_of_length_le, cutL]; done))
          | (refine Rm_gi (by first | omega | (simp; omega)) ?_)
          | (refine Rm_gb (by first | omega | (simp; omega)) ?_)
          | (refine Rm_ga (by first | omega | (simp; omega)) _ rfl (Nat.le_of_ble_eq_true rfl) ?_)
          | (refine Rm_gm (by first | omega | (simp; omega)) _ rfl ?_)
          | (refine Rm_part _ _ rfl rfl ?_)
          | (refine Rm_puti (by first | omega | (simp; omega)) rfl ?_)
          | (refine Dm_draw [] (by simp) ?_)
          | (refine Tm_both ?_ ?_)
          | (refine Tm_fin (by simp only [hideOK, newsE]; simp []) ?_)
          | (refine Cm_split (fun h => ?_) (fun h => ?_) <;> (try (simp only [decide_eq_true_eq, decide_eq_false_iff_not] at h)) <;> (try omega))
          | (refine Gm_split (fun h => ?_) (fun h => ?_) <;> (try simp only [ne_eq, Bool.not_eq_true, Bool.not_eq_false] at h) <;> (try rw [h]) <;> (try (simp only [decide_eq_true_eq, decide_eq_false_iff_not, bne_iff_ne, beq_iff_eq, bne_eq_false_iff_eq, beq_eq_false_iff_ne, Bool.not_eq_true, Bool.not_eq_true', Bool.not_eq_false, Bool.not_eq_false', ne_eq, Bool.and_eq_true, Bool.or_eq_true, true_eq_decide_iff, false_eq_decide_iff] at h)) <;> (try omega))
          | (refine Sm_split (fun h => ?_) (fun h => ?_) <;> (try (simp only [decide_eq_true_eq, decide_eq_false_iff_not, bne_iff_ne, beq_iff_eq, bne_eq_false_iff_eq, beq_eq_false_iff_ne, Bool.not_eq_true, Bool.not_eq_true', Bool.not_eq_false, Bool.not_eq_false', ne_eq, Bool.and_eq_true, Bool.or_eq_true, true_eq_decide_iff, false_eq_decide_iff] at h)) <;> (try omega))
          | (exact ret_p rfl ⟨rfl, rfl⟩)
          | (refine ret_okv (by first | trivial | simp only [go_sem, detD, detDs, detP, and_self, and_true]) ?_)
          | (exact ret_gen _ _ _ rfl rfl rfl ⟨rfl, rfl⟩)
          | (simp only [Option.some.injEq, DV.tup.injEq, DV.p.injEq, List.cons.injEq, PV.int.injEq, PV.bool.injEq, PV.str.injEq, and_true, true_and])
          | rfl
          | (refine Bool.eq_iff_iff.2 ?_; simp only [decide_eq_true_eq, Bool.and_eq_true, Bool.or_eq_true, Bool.not_eq_true', decide_eq_false_iff_not, Bool.false_eq_true, beq_iff_eq, bne_iff_ne, ne_eq, false_iff, iff_false, true_iff, iff_true]; omega)
          | omega)
      · rw [if_neg hz2] at h5
        subst h5
        repeat' (first
          | (simp only [go_sem, reduceIte, Nat.reduceEqDiff])
          | (simp (disch := omega) only [w64, nadd1])
          | (refine Rm_need (by first | exact True.intro | omega | (simp; omega)) ?_)
          | (refine Rm_w rfl (h4) (by trivial) ?_)
          | (refine Rm_w ?_ (h4) (by trivial) ?_; · (simp [viewOfs, viewOf, List.take_of_length_le, cutL]; done))
          | (refine Rm_gi (by first | omega | (simp; omega)) ?_)
          | (refine Rm_gb (by first | omega | (simp; omega)) ?_)
          | (refine Rm_ga (by first | omega | (simp; omega)) _ rfl (Nat.le_of_ble_eq_true rfl) ?_)
          | (refine Rm_gm (by first | omega | (simp; omega)) _ rfl ?_)
          | (refine Rm_part _ _ rfl rfl ?_)
          | (refine Rm_puti (by first | omega | (simp; omega)) rfl ?_)
          | (refine Dm_draw [] (by simp) ?_)
          | (refine Tm_both ?_ ?_)
          | (refine Tm_fin (by simp only [hideOK, newsE]; simp []) ?_)
          | (refine Cm_split (fun h => ?_) (fun h => ?_) <;> (try (simp only [decide_eq_true_eq, decide_eq_false_iff_not] at h)) <;> (try omega))
          | (refine Gm_split (fun h => ?_) (fun h => ?_) <;> (try simp only [ne_eq, Bool.not_eq_true, Bool.not_eq_false] at h) <;> (try rw [h]) <;> (try (simp only [decide_eq_true_eq, decide_eq_false_iff_not, bne_iff_ne, beq_iff_eq, bne_eq_false_iff_eq, beq_eq_false_iff_ne, Bool.not_eq_true, Bool.not_eq_true', Bool.not_eq_false, Bool.not_eq_false', ne_eq, Bool.and_eq_true, Bool.or_eq_true, true_eq_decide_iff, false_eq_decide_iff] at h)) <;> (try omega))
          | (refine Sm_split (fun h => ?_) (fun h => ?_) <;> (try (simp only [decide_eq_true_eq, decide_eq_false_iff_not, bne_iff_ne, beq_iff_eq, bne_eq_false_iff_eq, beq_eq_false_iff_ne, Bool.not_eq_true, Bool.not_eq_true', Bool.not_eq_false, Bool.not_eq_false', ne_eq, Bool.and_eq_true, Bool.or_eq_true, true_eq_decide_iff, false_eq_decide_iff] at h)) <;> (try omega))
          | (exact ret_p rfl ⟨rfl, rfl⟩)
          | (refine ret_okv (by first | trivial | simp only [go_sem, detD, detDs, detP, and_self, and_true]) ?_)
          | (exact ret_gen _ _ _ rfl rfl rfl ⟨rfl, rfl⟩)
          | (simp only [Option.some.injEq, DV.tup.injEq, DV.p.injEq, List.cons.injEq, PV.int.injEq, PV.bool.injEq, PV.str.injEq, and_true, true_and])
          | rfl
          | (refine Bool.eq_iff_iff.2 ?_; simp only [decide_eq_true_eq, Bool.and_eq_true, Bool.or_eq_true, Bool.not_eq_true', decide_eq_false_iff_not, Bool.false_eq_true, beq_iff_eq, bne_iff_ne, ne_eq, false_iff, iff_false, true_iff, iff_true]; omega)
          | omega)
        all_goals first
          | (exact Xm_inv_n (xs.length - (i + 1)) (by omega) ⟨i + 1, by omega, rfl, by omega, by rw [h1, show n - (xs.length : Int) - ((((xs.take i).map Stp.size).sum + (xs.getD i default).size : Nat) : Int) = n - xs.length - (((xs.take i).map Stp.size).sum : Nat) - (xs.getD i default).size from by omega]; rfl, rfl⟩)
          | (exfalso; omega)
          | skip
    · have ht : ((xs.take i).map Stp.size).sum = (xs.map Stp.size).sum := by rw [List.take_of_length_le hge]
      rw [ht] at h0 ⊢
      have hs2 : szO n (szLs xs) = n - xs.length - ((xs.map Stp.size).sum : Nat) := by rw [hs, if_neg (by omega)]; omega
      rw [hs2]
      repeat' (first
        | (simp only [go_sem, reduceIte, Nat.reduceEqDiff])
        | (simp (disch := omega) only [w64, w8, bytesOf_cons, tmod10, tdiv10, tn48, nsub1, nadd1, nsub, nadd, nmul, List.take_length, Int.toNat_zero, Int.reduceAdd, Int.reduceSub, Int.reduceToNat, Int.reduceMul, Nat.sub_zero, Nat.min_self])
        | (refine Rm_need (by first | exact True.intro | omega | (simp; omega)) ?_)
        | (refine Rm_gi (by first | omega | (simp; omega)) ?_)
        | (refine Rm_gb (by first | omega | (simp; omega)) ?_)
        | (refine Rm_ga (by first | omega | (simp; omega)) _ rfl (Nat.le_of_ble_eq_true rfl) ?_)
        | (refine Rm_gm (by first | omega | (simp; omega)) _ rfl ?_)
        | (refine Rm_part _ _ rfl rfl ?_)
        | (refine Rm_puti (by first | omega | (simp; omega)) rfl ?_)
        | (refine Dm_draw [] (by simp) ?_)
        | (refine Tm_both ?_ ?_)
        | (refine Tm_fin (by simp only [hideOK, newsE]; simp []) ?_)
        | (refine Cm_split (fun h => ?_) (fun h => ?_) <;> (try (simp only [decide_eq_true_eq, decide_eq_false_iff_not] at h)) <;> (try omega))
        | (refine Gm_split (fun h => ?_) (fun h => ?_) <;> (try simp only [ne_eq, Bool.not_eq_true, Bool.not_eq_false] at h) <;> (try rw [h]) <;> (try (simp only [decide_eq_true_eq, decide_eq_false_iff_not, bne_iff_ne, beq_iff_eq, bne_eq_false_iff_eq, beq_eq_false_iff_ne, Bool.not_eq_true, Bool.not_eq_true', Bool.not_eq_false, Bool.not_eq_false', ne_eq, Bool.and_eq_true, Bool.or_eq_true, true_eq_decide_iff, false_eq_decide_iff] at h)) <;> (try omega))
        | (refine Sm_split (fun h => ?_) (fun h => ?_) <;> (try (simp only [decide_eq_true_eq, decide_eq_false_iff_not, bne_iff_ne, beq_iff_eq, bne_eq_false_iff_eq, beq_eq_false_iff_ne, Bool.not_eq_true, Bool.not_eq_true', Bool.not_eq_false, Bool.not_eq_false', ne_eq, Bool.and_eq_true, Bool.or_eq_true, true_eq_decide_iff, false_eq_decide_iff] at h)) <;> (try omega))
        | (exact ret_p rfl ⟨rfl, rfl⟩)
        | (refine ret_okv (by first | trivial | simp only [go_sem, detD, detDs, detP, and_self, and_true]) ?_)
        | (exact ret_gen _ _ _ rfl rfl rfl ⟨rfl, rfl⟩)
        | (simp only [Option.some.injEq, DV.tup.injEq, DV.p.injEq, List.cons.injEq, PV.int.injEq, PV.bool.injEq, PV.str.injEq, and_true, true_and])
        | rfl
        | (refine Bool.eq_iff_iff.2 ?_; simp only [decide_eq_true_eq, Bool.and_eq_true, Bool.or_eq_true, Bool.not_eq_true', decide_eq_false_iff_not, Bool.false_eq_true, beq_iff_eq, bne_iff_ne, ne_eq, false_iff, iff_false, true_iff, iff_true]; omega)
        | omega)
theorem szs_fits {xs : List Stp} (h : szLs xs ≤ 1048576) : LsFits xs ∧ (lens xs).sum ≤ 1048576 := by
  unfold szLs at h
  have hone : ∀ x ∈ xs, x.size ≤ (xs.map Stp.size).sum := fun x hx => by
    obtain ⟨i, hi, rfl⟩ := List.mem_iff_getElem.1 hx
    have h1 := sum_take (L := xs.map Stp.size) (i := i) (by simpa using hi)
    have h2 := sum_part (L := xs.map Stp.size) (i := i + 1)
    rw [szs_get hi, List.getD_eq_getElem?_getD, List.getElem?_eq_getElem hi, Option.getD_some] at h1
    omega
  refine ⟨⟨by omega, fun x hx => st_fits (n := 1048576) (by omega) (by have := hone x hx; omega)⟩, ?_⟩
  have key : ∀ ys : List Stp, (lens ys).sum ≤ (ys.map Stp.size).sum := by
    intro ys
    induction ys with
    | nil => simp [lens]
    | cons y t ih =>
      have e : y.size = y.name.length + (y.route.length + (y.route.map List.length).sum) := rfl
      simp only [lens, List.map_cons, List.sum_cons] at ih ⊢
      omega
  have := key xs
  omega
set_option maxRecDepth 100000 in
/-- a list of laws.Strip, read -/
theorem open_Strips {xs : List PV} (h : PTy Try.prog 8 46 xs) : ∃ rs : List Stp, mkEl (aggB Try.prog 46) xs = .sl 4 (rs.map Stp.pv) ∧ rs.length ≤ 9223372036854775807 ∧ ∀ r ∈ rs, r.bds := by
  have e : aggB Try.prog 46 = false := by kernel_rfl
  obtain ⟨rows, rfl, hl, hr⟩ := pty_slice Try.underlying46 h
  obtain ⟨rs, h1, h2⟩ := els_of (G := fun r : Stp => r.bds) (f := Stp.pv) (fun ys hy => open_Strip (m := 3) hy) hr
  rw [e, (by kernel_rfl : Try.prog.cellsOf 24 = 4), h1]
  exact ⟨rs, rfl, by rw [← List.length_map (f := Stp.pv), ← h1, List.length_map]; exact hl, h2⟩
end Go.Proofs.Ytchekagoaidlpaa

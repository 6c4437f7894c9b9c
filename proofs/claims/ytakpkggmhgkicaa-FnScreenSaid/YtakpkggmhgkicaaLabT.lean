import Derived.Test.YtakpkggmhgkicaaLab2
import Derived.Test.YtakpkggmhgkicaaLabS
namespace Go.Proofs.Ytakpkggmhgkicaa
open Go.Dv Go.Dv.EvL
attribute [local irreducible] Ok Rm Dm Om Sm Xm Cm Gm Hm Tm
attribute [local irreducible] scrTo rowTo byteO scrO

abbrev byP : UInt8 → PV := fun b => .int .u8 b.toNat
theorem byte_app {xs : List UInt8} {a : UInt8} : xs.map (fun b => PV.int .u8 b.toNat) ++ [.int .u8 a.toNat] = (xs ++ [a]).map (fun b => PV.int .u8 b.toNat) := by simp
theorem byte_nl {xs : List UInt8} : xs.map (fun b : UInt8 => PV.int .u8 b.toNat) ++ [.int .u8 10] = (xs ++ [(10 : UInt8)]).map (fun b : UInt8 => PV.int .u8 b.toNat) := by simp
theorem digit_at {k : Nat} (h : k < 10) : (48 : Int) + (k : Int) = (((UInt8.ofNat (48 + k)).toNat : Nat) : Int) := by
  rw [UInt8.toNat_ofNat_of_lt' (by show 48 + k < 256; omega)]
  omega
theorem fco_down {ls : List Sp} {p : Sp} {n j : Nat} (h : j < n) : fco ls p (n - j) j = if cov (ls.getD j default) p then UInt8.ofNat (48 + j) else fco ls p (n - (j + 1)) (j + 1) := by
  rw [show n - j = (n - (j + 1)) + 1 from by omega, fco]
theorem in_step {xs : List Sp} {p : Sp} {i : Nat} (h : i < xs.length) : p ∈ xs.take (i + 1) ↔ p ∈ xs.take i ∨ ((xs.getD i default).x = p.x ∧ (xs.getD i default).y = p.y) := by
  rw [take_snoc (d := default) h, List.mem_append, List.mem_singleton, sp_eq]
  constructor
  · rintro (h | ⟨h1, h2⟩)
    · exact .inl h
    · exact .inr ⟨h1.symm, h2.symm⟩
  · rintro (h | ⟨h1, h2⟩)
    · exact .inl h
    · exact .inr ⟨h1.symm, h2.symm⟩
set_option maxRecDepth 100000 in
set_option maxHeartbeats 16000000 in
/-- spec.l23Byte -/
theorem k_l23Byte (xs : List Sp) (cs : List Int) (x y : Nat) (hp : plB xs cs = true) : Okv Try.prog 40 [.sl 2 (xs.map Sp.pv), slI .i64 cs, .agg [.int .i64 x, .int .i64 y]] (.p (.str [byteO xs (lbls xs cs cs.length) ⟨x, y⟩])) := by
  refine ok_D hmix c_spec_l23Byte (by simp) ?_
  obtain ⟨h1, hle, h3⟩ := pl_in hp
  obtain ⟨hx, hon⟩ := lb_in h1
  have hcc := fun i (h : i < cs.length) => (plTo_at h3 h).1
  have hat := fun i hi => k_l23At (xs.getD i default).x (xs.getD i default).y (cs.getD i 0) (hon i hi)
  have hlg := fun i => lbls_get (xs := xs) (cs := cs) (i := i) (n := cs.length)
  have hd := byteO_def (xs := xs) (ls := lbls xs cs cs.length) (p := ⟨x, y⟩)
  rw [hd]
  clear hd hp h1 h3
  generalize lbls xs cs cs.length = ls at *
  simp only [envOf, envFrom, go_sem, reduceIte, Nat.reduceEqDiff, Nat.reduceAdd]
  refine Dm_loop [0, 1, 5, 7] (fun m ds H' => ∃ i : Nat, i ≤ xs.length ∧ m = xs.length - i ∧ (⟨x, y⟩ : Sp) ∉ xs.take i ∧ ds = [.p (.sl 2 (xs.map Sp.pv)), .p (slI .i64 cs), .ptr 0 0 0, .p (.int .i64 i)] ∧ H' = [.box 49 [.p (.int .i64 x), .p (.int .i64 y)]]) xs.length ⟨0, by omega, by omega, by simp, rfl, rfl⟩ ?_
  rintro m ds H' ⟨i, hi, rfl, hq, rfl, rfl⟩ -
  rcases Nat.lt_or_ge i xs.length with hil | hil
  · have his := in_step (p := ⟨x, y⟩) hil
    simp only [] at his
    repeat' (first
      | (simp only [go_sem, reduceIte, Nat.reduceEqDiff, Nat.reduceAdd, Nat.reduceLeDiff, Bool.false_eq_true])
      | (simp (disch := omega) only [w64, nadd1])
      | (refine Rm_need (by first | exact True.intro | omega | (simp; omega)) ?_)
      | (refine Dm_draw [0] ?_ ?_; · (simp; done))
      | (refine Rm_gi (by first | omega | (simp; omega)) ?_)
      | (refine Rm_gb (by first | omega | (simp; omega)) ?_)
      | (refine Rm_ga (by first | omega | (simp; omega)) _ rfl (Nat.le_of_ble_eq_true rfl) ?_)
      | (refine Rm_gm (by first | omega | (simp; omega)) _ rfl ?_)
      | (refine Rm_part _ _ rfl rfl ?_)
      | (refine Rm_puti (by first | omega | (simp; omega)) rfl ?_)
      | (refine Dm_draw [] (by simp) ?_)
      | (refine Tm_both ?_ ?_)
      | (refine Tm_fin (by simp only [hideOK, newsE]; simp []) ?_)
      | (refine Cm_split (fun h => ?_) (fun h => ?_) <;> (try (simp only [decide_eq_true_eq, decide_eq_false_iff_not, beq_iff_eq, Bool.and_eq_true] at h)) <;> (try omega))
      | (refine Gm_split (fun h => ?_) (fun h => ?_) <;> (try simp only [ne_eq, Bool.not_eq_true, Bool.not_eq_false] at h) <;> (try rw [h]) <;> (try (simp only [decide_eq_true_eq, decide_eq_false_iff_not, bne_iff_ne, beq_iff_eq, bne_eq_false_iff_eq, beq_eq_false_iff_ne, Bool.not_eq_true, Bool.not_eq_true', Bool.not_eq_false, Bool.not_eq_false', ne_eq, Bool.and_eq_true, Bool.or_eq_true, true_eq_decide_iff, false_eq_decide_iff] at h)) <;> (try omega))
      | (refine Sm_split (fun h => ?_) (fun h => ?_) <;> (try (simp only [decide_eq_true_eq, decide_eq_false_iff_not, bne_iff_ne, beq_iff_eq, bne_eq_false_iff_eq, beq_eq_false_iff_ne, Bool.not_eq_true, Bool.not_eq_true', Bool.not_eq_false, Bool.not_eq_false', ne_eq, Bool.and_eq_true, Bool.or_eq_true, true_eq_decide_iff, false_eq_decide_iff] at h)) <;> (try omega))
      | (exact ret_p rfl ⟨rfl, rfl⟩)
      | (refine ret_okv (by first | trivial | simp only [go_sem, detD, detDs, detP, and_self, and_true]) ?_)
      | (exact ret_gen _ _ _ rfl rfl rfl ⟨rfl, rfl⟩)
      | (simp only [Option.some.injEq, DV.p.injEq, List.cons.injEq, PV.str.injEq, and_true])
      | rfl
      | (refine Bool.eq_iff_iff.2 ?_; simp only [decide_eq_true_eq, Bool.and_eq_true, Bool.or_eq_true, Bool.not_eq_true', decide_eq_false_iff_not, Bool.false_eq_true, beq_iff_eq, bne_iff_ne, ne_eq, false_iff, iff_false, true_iff, iff_true]; omega)
      | omega)
    all_goals first
      | (have hm : (⟨x, y⟩ : Sp) ∈ xs := List.mem_of_mem_take (i := i + 1) (his.2 (.inr (by grind)))
         rw [if_pos hm])
      | (refine Xm_inv_n (xs.length - (i + 1)) (by omega) ⟨i + 1, by omega, rfl, ?_, rfl, rfl⟩
         rw [his]; grind)
      | skip
  · rw [List.take_of_length_le hil] at hq
    rw [if_neg hq]
    repeat' (first
      | (simp only [go_sem, reduceIte, Nat.reduceEqDiff])
      | (simp (disch := omega) only [w64, w8, bytesOf_cons, tmod10, tdiv10, tn48, nsub1, nadd1, nsub, nadd, nmul, List.take_length, Int.toNat_zero, Int.reduceAdd, Int.reduceSub, Int.reduceToNat, Int.reduceMul, Nat.sub_zero, Nat.min_self])
      | (refine Rm_need (by first | exact True.intro | omega | (simp; omega)) ?_)
      | (refine Rm_gi (by first | omega | (simp; omega)) ?_)
      | (refine Rm_gb (by first | omega | (simp; omega)) ?_)
      | (refine Rm_ga (by first | omega | (simp; omega)) _ rfl (Nat.le_of_ble_eq_true rfl) ?_)
      | (refine Rm_gm (by first | omega | (simp; omega)) _ rfl ?_)
      | (refine Rm_part _ _ rfl rfl ?_)
      | (refine Rm_puti (by first | omega | (simp; omega)) rfl ?_)
      | (refine Dm_draw [] (by simp) ?_)
      | (refine Tm_both ?_ ?_)
      | (refine Tm_fin (by simp only [hideOK, newsE]; simp []) ?_)
      | (refine Cm_split (fun h => ?_) (fun h => ?_) <;> (try (simp only [decide_eq_true_eq, decide_eq_false_iff_not] at h)) <;> (try omega))
      | (refine Gm_split (fun h => ?_) (fun h => ?_) <;> (try simp only [ne_eq, Bool.not_eq_true, Bool.not_eq_false] at h) <;> (try rw [h]) <;> (try (simp only [decide_eq_true_eq, decide_eq_false_iff_not, bne_iff_ne, beq_iff_eq, bne_eq_false_iff_eq, beq_eq_false_iff_ne, Bool.not_eq_true, Bool.not_eq_true', Bool.not_eq_false, Bool.not_eq_false', ne_eq, Bool.and_eq_true, Bool.or_eq_true, true_eq_decide_iff, false_eq_decide_iff] at h)) <;> (try omega))
      | (refine Sm_split (fun h => ?_) (fun h => ?_) <;> (try (simp only [decide_eq_true_eq, decide_eq_false_iff_not, bne_iff_ne, beq_iff_eq, bne_eq_false_iff_eq, beq_eq_false_iff_ne, Bool.not_eq_true, Bool.not_eq_true', Bool.not_eq_false, Bool.not_eq_false', ne_eq, Bool.and_eq_true, Bool.or_eq_true, true_eq_decide_iff, false_eq_decide_iff] at h)) <;> (try omega))
      | (exact ret_p rfl ⟨rfl, rfl⟩)
      | (refine ret_okv (by first | trivial | simp only [go_sem, detD, detDs, detP, and_self, and_true]) ?_)
      | (exact ret_gen _ _ _ rfl rfl rfl ⟨rfl, rfl⟩)
      | (simp only [Option.some.injEq, DV.tup.injEq, DV.p.injEq, List.cons.injEq, PV.int.injEq, PV.bool.injEq, PV.str.injEq, and_true, true_and])
      | rfl
      | (refine Bool.eq_iff_iff.2 ?_; simp only [decide_eq_true_eq, Bool.and_eq_true, Bool.or_eq_true, Bool.not_eq_true', decide_eq_false_iff_not, Bool.false_eq_true, beq_iff_eq, bne_iff_ne, ne_eq, false_iff, iff_false, true_iff, iff_true]; omega)
      | omega)
    refine Dm_loop [0, 1, 5, 8] (fun m ds H' => ∃ i : Nat, i ≤ xs.length ∧ m = xs.length - i ∧ fco ls ⟨x, y⟩ xs.length 0 = fco ls ⟨x, y⟩ (xs.length - i) i ∧ ds = [.p (.sl 2 (xs.map Sp.pv)), .p (slI .i64 cs), .ptr 0 0 0, .p (.int .i64 i)] ∧ H' = [.box 49 [.p (.int .i64 x), .p (.int .i64 y)]]) xs.length ⟨0, by omega, by omega, by simp, rfl, rfl⟩ ?_
    clear hil hi
    rintro m ds H' ⟨i, hi, rfl, hf, rfl, rfl⟩ -
    rcases Nat.lt_or_ge i xs.length with hil | hil
    · have hfd := fco_down (ls := ls) (p := ⟨x, y⟩) hil
      have hak := hat i hil (hcc i (by omega))
      have hb1 := at_in (c := cs.getD i 0) (hon i hil)
      have hcv := k_l23Covers (atX (xs.getD i default).x (cs.getD i 0)) (atY (xs.getD i default).y (cs.getD i 0)) x y (by omega) (by omega)
      have he2 : (⟨atX (xs.getD i default).x (cs.getD i 0), atY (xs.getD i default).y (cs.getD i 0)⟩ : Sp) = ls.getD i default := by rw [hlg i (by omega)]; rfl
      rw [he2] at hcv
      have hds := dec_small (n := i) (by omega)
      have hnu := k_l1NumN i (by omega)
      rw [hds] at hnu
      rw [hf, hfd]
      rw [hfd] at hf
      cases hv : cov (ls.getD i default) ⟨x, y⟩
      · rw [hv] at hcv
        rw [hv, if_neg (by simp)] at hf
        rw [if_neg (by simp)]
        repeat' (first
          | (simp only [go_sem, reduceIte, Nat.reduceEqDiff, Nat.reduceAdd, Nat.reduceLeDiff])
          | (simp (disch := omega) only [w64, nadd1])
          | (refine Rm_need (by first | exact True.intro | omega | (simp; omega)) ?_)
          | (refine Dm_draw [0] ?_ ?_; · (simp; done))
          | (refine Rm_w rfl (hak) (by trivial) ?_)
          | (refine Rm_w ?_ (hak) (by trivial) ?_; · (simp [viewOfs, viewOf, List.take_of_length_le, cutL]; done))
          | (refine Rm_w rfl (hcv) (by trivial) ?_)
          | (refine Rm_w ?_ (hcv) (by trivial) ?_; · (simp [viewOfs, viewOf, List.take_of_length_le, cutL]; done))
          | (refine Rm_gi (by first | omega | (simp; omega)) ?_)
          | (refine Rm_gb (by first | omega | (simp; omega)) ?_)
          | (refine Rm_ga (by first | omega | (simp; omega)) _ rfl (Nat.le_of_ble_eq_true rfl) ?_)
          | (refine Rm_gm (by first | omega | (simp; omega)) _ rfl ?_)
          | (refine Rm_part _ _ rfl rfl ?_)
          | (refine Rm_puti (by first | omega | (simp; omega)) rfl ?_)
          | (refine Dm_draw [] (by simp) ?_)
          | (refine Tm_both ?_ ?_)
          | (refine Tm_fin (by simp only [hideOK, newsE]; simp []) ?_)
          | (refine Cm_split (fun h => ?_) (fun h => ?_) <;> (try (simp only [decide_eq_true_eq, decide_eq_false_iff_not] at h)) <;> (try omega))
          | (refine Gm_split (fun h => ?_) (fun h => ?_) <;> (try simp only [ne_eq, Bool.not_eq_true, Bool.not_eq_false] at h) <;> (try rw [h]) <;> (try (simp only [decide_eq_true_eq, decide_eq_false_iff_not, bne_iff_ne, beq_iff_eq, bne_eq_false_iff_eq, beq_eq_false_iff_ne, Bool.not_eq_true, Bool.not_eq_true', Bool.not_eq_false, Bool.not_eq_false', ne_eq, Bool.and_eq_true, Bool.or_eq_true, true_eq_decide_iff, false_eq_decide_iff] at h)) <;> (try omega))
          | (refine Sm_split (fun h => ?_) (fun h => ?_) <;> (try (simp only [decide_eq_true_eq, decide_eq_false_iff_not, bne_iff_ne, beq_iff_eq, bne_eq_false_iff_eq, beq_eq_false_iff_ne, Bool.not_eq_true, Bool.not_eq_true', Bool.not_eq_false, Bool.not_eq_false', ne_eq, Bool.and_eq_true, Bool.or_eq_true, true_eq_decide_iff, false_eq_decide_iff] at h)) <;> (try omega))
          | (exact ret_p rfl ⟨rfl, rfl⟩)
          | (refine ret_okv (by first | trivial | simp only [go_sem, detD, detDs, detP, and_self, and_true]) ?_)
          | (exact ret_gen _ _ _ rfl rfl rfl ⟨rfl, rfl⟩)
          | (simp only [Option.some.injEq, DV.tup.injEq, DV.p.injEq, List.cons.injEq, PV.int.injEq, PV.bool.injEq, PV.str.injEq, and_true, true_and])
          | rfl
          | (refine Bool.eq_iff_iff.2 ?_; simp only [decide_eq_true_eq, Bool.and_eq_true, Bool.or_eq_true, Bool.not_eq_true', decide_eq_false_iff_not, Bool.false_eq_true, beq_iff_eq, bne_iff_ne, ne_eq, false_iff, iff_false, true_iff, iff_true]; omega)
          | omega)
        exact Xm_inv_n (xs.length - (i + 1)) (by omega) ⟨i + 1, by omega, rfl, rfl, rfl, rfl⟩
      · rw [hv] at hcv
        rw [if_pos rfl]
        repeat' (first
          | (simp only [go_sem, reduceIte, Nat.reduceEqDiff, Nat.reduceAdd, Nat.reduceLeDiff])
          | (simp (disch := omega) only [w64, w8, bytesOf_cons, tmod10, tdiv10, tn48, nsub1, nadd1, nsub, nadd, nmul, List.take_length, Int.toNat_zero, Int.reduceAdd, Int.reduceSub, Int.reduceToNat, Int.reduceMul, Nat.sub_zero, Nat.min_self])
          | (refine Rm_need (by first | exact True.intro | omega | (simp; omega)) ?_)
          | (refine Dm_draw [0] ?_ ?_; · (simp; done))
          | (refine Rm_w rfl (hak) (by trivial) ?_)
          | (refine Rm_w ?_ (hak) (by trivial) ?_; · (simp [viewOfs, viewOf, List.take_of_length_le, cutL]; done))
          | (refine Rm_w rfl (hcv) (by trivial) ?_)
          | (refine Rm_w ?_ (hcv) (by trivial) ?_; · (simp [viewOfs, viewOf, List.take_of_length_le, cutL]; done))
          | (refine Rm_w rfl (hnu) (by trivial) ?_)
          | (refine Rm_w ?_ (hnu) (by trivial) ?_; · (simp [viewOfs, viewOf, List.take_of_length_le, cutL]; done))
          | (refine Rm_gi (by first | omega | (simp; omega)) ?_)
          | (refine Rm_gb (by first | omega | (simp; omega)) ?_)
          | (refine Rm_ga (by first | omega | (simp; omega)) _ rfl (Nat.le_of_ble_eq_true rfl) ?_)
          | (refine Rm_gm (by first | omega | (simp; omega)) _ rfl ?_)
          | (refine Rm_part _ _ rfl rfl ?_)
          | (refine Rm_puti (by first | omega | (simp; omega)) rfl ?_)
          | (refine Dm_draw [] (by simp) ?_)
          | (refine Tm_both ?_ ?_)
          | (refine Tm_fin (by simp only [hideOK, newsE]; simp []) ?_)
          | (refine Cm_split (fun h => ?_) (fun h => ?_) <;> (try (simp only [decide_eq_true_eq, decide_eq_false_iff_not] at h)) <;> (try omega))
          | (refine Gm_split (fun h => ?_) (fun h => ?_) <;> (try simp only [ne_eq, Bool.not_eq_true, Bool.not_eq_false] at h) <;> (try rw [h]) <;> (try (simp only [decide_eq_true_eq, decide_eq_false_iff_not, bne_iff_ne, beq_iff_eq, bne_eq_false_iff_eq, beq_eq_false_iff_ne, Bool.not_eq_true, Bool.not_eq_true', Bool.not_eq_false, Bool.not_eq_false', ne_eq, Bool.and_eq_true, Bool.or_eq_true, true_eq_decide_iff, false_eq_decide_iff] at h)) <;> (try omega))
          | (refine Sm_split (fun h => ?_) (fun h => ?_) <;> (try (simp only [decide_eq_true_eq, decide_eq_false_iff_not, bne_iff_ne, beq_iff_eq, bne_eq_false_iff_eq, beq_eq_false_iff_ne, Bool.not_eq_true, Bool.not_eq_true', Bool.not_eq_false, Bool.not_eq_false', ne_eq, Bool.and_eq_true, Bool.or_eq_true, true_eq_decide_iff, false_eq_decide_iff] at h)) <;> (try omega))
          | (exact ret_p rfl ⟨rfl, rfl⟩)
          | (refine ret_okv (by first | trivial | simp only [go_sem, detD, detDs, detP, and_self, and_true]) ?_)
          | (exact ret_gen _ _ _ rfl rfl rfl ⟨rfl, rfl⟩)
          | (simp only [Option.some.injEq, DV.tup.injEq, DV.p.injEq, List.cons.injEq, PV.int.injEq, PV.bool.injEq, PV.str.injEq, and_true, true_and])
          | rfl
          | (refine Bool.eq_iff_iff.2 ?_; simp only [decide_eq_true_eq, Bool.and_eq_true, Bool.or_eq_true, Bool.not_eq_true', decide_eq_false_iff_not, Bool.false_eq_true, beq_iff_eq, bne_iff_ne, ne_eq, false_iff, iff_false, true_iff, iff_true]; omega)
          | omega)
    · rw [hf, show xs.length - i = 0 from by omega]
      unfold fco
      repeat' (first
        | (simp only [go_sem, reduceIte, Nat.reduceEqDiff])
        | (simp (disch := omega) only [w64, w8, bytesOf_cons, tmod10, tdiv10, tn48, nsub1, nadd1, nsub, nadd, nmul, List.take_length, Int.toNat_zero, Int.reduceAdd, Int.reduceSub, Int.reduceToNat, Int.reduceMul, Nat.sub_zero, Nat.min_self])
        | (refine Rm_need (by first | exact True.intro | omega | (simp; omega)) ?_)
        | (refine Rm_gi (by first | omega | (simp; omega)) ?_)
        | (refine Rm_gb (by first | omega | (simp; omega)) ?_)
        | (refine Rm_ga (by first | omega | (simp; omega)) _ rfl (Nat.le_of_ble_eq_true rfl) ?_)
        | (refine Rm_gm (by first | omega | (simp; omega)) _ rfl ?_)
        | (refine Rm_part _ _ rfl rfl ?_)
        | (refine Rm_puti (by first | omega | (simp; omega)) rfl ?_)
        | (refine Dm_draw [] (by simp) ?_)
        | (refine Tm_both ?_ ?_)
        | (refine Tm_fin (by simp only [hideOK, newsE]; simp []) ?_)
        | (refine Cm_split (fun h => ?_) (fun h => ?_) <;> (try (simp only [decide_eq_true_eq, decide_eq_false_iff_not] at h)) <;> (try omega))
        | (refine Gm_split (fun h => ?_) (fun h => ?_) <;> (try simp only [ne_eq, Bool.not_eq_true, Bool.not_eq_false] at h) <;> (try rw [h]) <;> (try (simp only [decide_eq_true_eq, decide_eq_false_iff_not, bne_iff_ne, beq_iff_eq, bne_eq_false_iff_eq, beq_eq_false_iff_ne, Bool.not_eq_true, Bool.not_eq_true', Bool.not_eq_false, Bool.not_eq_false', ne_eq, Bool.and_eq_true, Bool.or_eq_true, true_eq_decide_iff, false_eq_decide_iff] at h)) <;> (try omega))
        | (refine Sm_split (fun h => ?_) (fun h => ?_) <;> (try (simp only [decide_eq_true_eq, decide_eq_false_iff_not, bne_iff_ne, beq_iff_eq, bne_eq_false_iff_eq, beq_eq_false_iff_ne, Bool.not_eq_true, Bool.not_eq_true', Bool.not_eq_false, Bool.not_eq_false', ne_eq, Bool.and_eq_true, Bool.or_eq_true, true_eq_decide_iff, false_eq_decide_iff] at h)) <;> (try omega))
        | (exact ret_p rfl ⟨rfl, rfl⟩)
        | (refine ret_okv (by first | trivial | simp only [go_sem, detD, detDs, detP, and_self, and_true]) ?_)
        | (exact ret_gen _ _ _ rfl rfl rfl ⟨rfl, rfl⟩)
        | (simp only [Option.some.injEq, DV.tup.injEq, DV.p.injEq, List.cons.injEq, PV.int.injEq, PV.bool.injEq, PV.str.injEq, and_true, true_and])
        | rfl
        | (refine Bool.eq_iff_iff.2 ?_; simp only [decide_eq_true_eq, Bool.and_eq_true, Bool.or_eq_true, Bool.not_eq_true', decide_eq_false_iff_not, Bool.false_eq_true, beq_iff_eq, bne_iff_ne, ne_eq, false_iff, iff_false, true_iff, iff_true]; omega)
        | omega)
set_option maxRecDepth 100000 in
set_option maxHeartbeats 16000000 in
/-- spec.ScreenText -/
theorem k_sScreen (xs : List Sp) (cs : List Int) (hb : xs.length ≤ 1048576) (hc : cs.length ≤ 1048576) : Okv Try.prog 11 [spS xs, slI .i64 cs] (.tup [.p (.str (if plB xs cs then scrO xs cs else [])), .p (.bool (plB xs cs))]) := by
  refine ok_D hmix c_spec_ScreenText (by simp) ?_
  have hg := k_l23Good xs cs hb hc
  cases h : plB xs cs
  · rw [h] at hg
    simp only [envOf, envFrom, go_sem, reduceIte, Nat.reduceEqDiff, Bool.false_eq_true]
    repeat' (first
      | (simp only [go_sem, reduceIte, Nat.reduceEqDiff])
      | (simp (disch := omega) only [w64, w8, bytesOf_cons, tmod10, tdiv10, tn48, nsub1, nadd1, nsub, nadd, nmul, List.take_length, Int.toNat_zero, Int.reduceAdd, Int.reduceSub, Int.reduceToNat, Int.reduceMul, Nat.sub_zero, Nat.min_self])
      | (refine Rm_need (by first | exact True.intro | omega | (simp; omega)) ?_)
      | (refine Rm_w rfl (hg) (by trivial) ?_)
      | (refine Rm_w ?_ (hg) (by trivial) ?_; · (simp [viewOfs, viewOf, List.take_of_length_le, cutL]; done))
      | (refine Rm_gi (by first | omega | (simp; omega)) ?_)
      | (refine Rm_gb (by first | omega | (simp; omega)) ?_)
      | (refine Rm_ga (by first | omega | (simp; omega)) _ rfl (Nat.le_of_ble_eq_true rfl) ?_)
      | (refine Rm_gm (by first | omega | (simp; omega)) _ rfl ?_)
      | (refine Rm_part _ _ rfl rfl ?_)
      | (refine Rm_puti (by first | omega | (simp; omega)) rfl ?_)
      | (refine Dm_draw [] (by simp) ?_)
      | (refine Tm_both ?_ ?_)
      | (refine Tm_fin (by simp only [hideOK, newsE]; simp []) ?_)
      | (refine Cm_split (fun h => ?_) (fun h => ?_) <;> (try (simp only [decide_eq_true_eq, decide_eq_false_iff_not, bne_iff_ne, beq_iff_eq, bne_eq_false_iff_eq, beq_eq_false_iff_ne, Bool.not_eq_true, Bool.not_eq_true', Bool.not_eq_false, Bool.not_eq_false', ne_eq, Bool.and_eq_true, Bool.or_eq_true, true_eq_decide_iff, false_eq_decide_iff] at h)) <;> (try omega))
      | (refine Gm_split (fun h => ?_) (fun h => ?_) <;> (try simp only [ne_eq, Bool.not_eq_true, Bool.not_eq_false] at h) <;> (try rw [h]) <;> (try (simp only [decide_eq_true_eq, decide_eq_false_iff_not, bne_iff_ne, beq_iff_eq, bne_eq_false_iff_eq, beq_eq_false_iff_ne, Bool.not_eq_true, Bool.not_eq_true', Bool.not_eq_false, Bool.not_eq_false', ne_eq, Bool.and_eq_true, Bool.or_eq_true, true_eq_decide_iff, false_eq_decide_iff] at h)) <;> (try omega))
      | (refine Sm_split (fun h => ?_) (fun h => ?_) <;> (try (simp only [decide_eq_true_eq, decide_eq_false_iff_not, bne_iff_ne, beq_iff_eq, bne_eq_false_iff_eq, beq_eq_false_iff_ne, Bool.not_eq_true, Bool.not_eq_true', Bool.not_eq_false, Bool.not_eq_false', ne_eq, Bool.and_eq_true, Bool.or_eq_true, true_eq_decide_iff, false_eq_decide_iff] at h)) <;> (try omega))
      | (exact ret_p rfl ⟨rfl, rfl⟩)
      | (refine ret_okv (by first | trivial | simp only [go_sem, detD, detDs, detP, and_self, and_true]) ?_)
      | (exact ret_gen _ _ _ rfl rfl rfl ⟨rfl, rfl⟩)
      | (simp only [Option.some.injEq, DV.tup.injEq, DV.p.injEq, List.cons.injEq, PV.int.injEq, PV.bool.injEq, PV.str.injEq, and_true, true_and])
      | rfl
      | (refine Bool.eq_iff_iff.2 ?_; simp only [decide_eq_true_eq, Bool.and_eq_true, Bool.or_eq_true, Bool.not_eq_true', decide_eq_false_iff_not, Bool.false_eq_true, beq_iff_eq, bne_iff_ne, ne_eq, false_iff, iff_false, true_iff, iff_true]; omega)
      | omega)
  · rw [h] at hg
    have hby := fun x y => k_l23Byte xs cs x y h
    have hd := scrO_def (xs := xs) (cs := cs)
    rw [if_pos rfl, hd]
    generalize lbls xs cs cs.length = ls at *
    simp only [envOf, envFrom, go_sem, reduceIte, Nat.reduceEqDiff]
    repeat' (first
      | (simp only [go_sem, reduceIte, Nat.reduceEqDiff])
      | (simp (disch := omega) only [w64, w8, bytesOf_cons, tmod10, tdiv10, tn48, nsub1, nadd1, nsub, nadd, nmul, List.take_length, Int.toNat_zero, Int.reduceAdd, Int.reduceSub, Int.reduceToNat, Int.reduceMul, Nat.sub_zero, Nat.min_self])
      | (refine Rm_need (by first | exact True.intro | omega | (simp; omega)) ?_)
      | (refine Rm_w rfl (hg) (by trivial) ?_)
      | (refine Rm_w ?_ (hg) (by trivial) ?_; · (simp [viewOfs, viewOf, List.take_of_length_le, cutL]; done))
      | (refine Rm_gi (by first | omega | (simp; omega)) ?_)
      | (refine Rm_gb (by first | omega | (simp; omega)) ?_)
      | (refine Rm_ga (by first | omega | (simp; omega)) _ rfl (Nat.le_of_ble_eq_true rfl) ?_)
      | (refine Rm_gm (by first | omega | (simp; omega)) _ rfl ?_)
      | (refine Rm_part _ _ rfl rfl ?_)
      | (refine Rm_puti (by first | omega | (simp; omega)) rfl ?_)
      | (refine Dm_draw [] (by simp) ?_)
      | (refine Tm_both ?_ ?_)
      | (refine Tm_fin (by simp only [hideOK, newsE]; simp []) ?_)
      | (refine Cm_split (fun h => ?_) (fun h => ?_) <;> (try (simp only [decide_eq_true_eq, decide_eq_false_iff_not, bne_iff_ne, beq_iff_eq, bne_eq_false_iff_eq, beq_eq_false_iff_ne, Bool.not_eq_true, Bool.not_eq_true', Bool.not_eq_false, Bool.not_eq_false', ne_eq, Bool.and_eq_true, Bool.or_eq_true, true_eq_decide_iff, false_eq_decide_iff] at h)) <;> (try omega))
      | (refine Gm_split (fun h => ?_) (fun h => ?_) <;> (try simp only [ne_eq, Bool.not_eq_true, Bool.not_eq_false] at h) <;> (try rw [h]) <;> (try (simp only [decide_eq_true_eq, decide_eq_false_iff_not, bne_iff_ne, beq_iff_eq, bne_eq_false_iff_eq, beq_eq_false_iff_ne, Bool.not_eq_true, Bool.not_eq_true', Bool.not_eq_false, Bool.not_eq_false', ne_eq, Bool.and_eq_true, Bool.or_eq_true, true_eq_decide_iff, false_eq_decide_iff] at h)) <;> (try omega))
      | (refine Sm_split (fun h => ?_) (fun h => ?_) <;> (try (simp only [decide_eq_true_eq, decide_eq_false_iff_not, bne_iff_ne, beq_iff_eq, bne_eq_false_iff_eq, beq_eq_false_iff_ne, Bool.not_eq_true, Bool.not_eq_true', Bool.not_eq_false, Bool.not_eq_false', ne_eq, Bool.and_eq_true, Bool.or_eq_true, true_eq_decide_iff, false_eq_decide_iff] at h)) <;> (try omega))
      | (exact ret_p rfl ⟨rfl, rfl⟩)
      | (refine ret_okv (by first | trivial | simp only [go_sem, detD, detDs, detP, and_self, and_true]) ?_)
      | (exact ret_gen _ _ _ rfl rfl rfl ⟨rfl, rfl⟩)
      | (simp only [Option.some.injEq, DV.tup.injEq, DV.p.injEq, List.cons.injEq, PV.int.injEq, PV.bool.injEq, PV.str.injEq, and_true, true_and])
      | rfl
      | (refine Bool.eq_iff_iff.2 ?_; simp only [decide_eq_true_eq, Bool.and_eq_true, Bool.or_eq_true, Bool.not_eq_true', decide_eq_false_iff_not, Bool.false_eq_true, beq_iff_eq, bne_iff_ne, ne_eq, false_iff, iff_false, true_iff, iff_true]; omega)
      | omega)
    refine Dm_loop [0, 1, 6, 7] (fun m ds H' => ∃ y : Nat, y ≤ 30 ∧ m = 30 - y ∧ ds = [.p (spS xs), .p (slI .i64 cs), .p (.str (scrTo xs ls y)), .p (.int .i64 y)] ∧ H' = []) 30 ⟨0, by omega, by omega, by rw [scr_zero]; rfl, rfl⟩ ?_
    rintro m ds H' ⟨y, hy, rfl, rfl, rfl⟩ -
    have hsl := scr_len (xs := xs) (ls := ls) (n := y)
    have hss := scr_succ (xs := xs) (ls := ls) (y := y)
    rcases Nat.lt_or_ge y 30 with hyl | hyl
    · repeat' (first
        | (simp only [go_sem, reduceIte, Nat.reduceEqDiff])
        | (simp (disch := omega) only [w64, w8, bytesOf_cons, tmod10, tdiv10, tn48, nsub1, nadd1, nsub, nadd, nmul, List.take_length, Int.toNat_zero, Int.reduceAdd, Int.reduceSub, Int.reduceToNat, Int.reduceMul, Nat.sub_zero, Nat.min_self])
        | (refine Rm_need (by first | exact True.intro | omega | (simp; omega)) ?_)
        | (refine Rm_gi (by first | omega | (simp; omega)) ?_)
        | (refine Rm_gb (by first | omega | (simp; omega)) ?_)
        | (refine Rm_ga (by first | omega | (simp; omega)) _ rfl (Nat.le_of_ble_eq_true rfl) ?_)
        | (refine Rm_gm (by first | omega | (simp; omega)) _ rfl ?_)
        | (refine Rm_part _ _ rfl rfl ?_)
        | (refine Rm_puti (by first | omega | (simp; omega)) rfl ?_)
        | (refine Dm_draw [] (by simp) ?_)
        | (refine Tm_both ?_ ?_)
        | (refine Tm_fin (by simp only [hideOK, newsE]; simp []) ?_)
        | (refine Cm_split (fun h => ?_) (fun h => ?_) <;> (try (simp only [decide_eq_true_eq, decide_eq_false_iff_not] at h)) <;> (try omega))
        | (refine Gm_split (fun h => ?_) (fun h => ?_) <;> (try simp only [ne_eq, Bool.not_eq_true, Bool.not_eq_false] at h) <;> (try rw [h]) <;> (try (simp only [decide_eq_true_eq, decide_eq_false_iff_not, bne_iff_ne, beq_iff_eq, bne_eq_false_iff_eq, beq_eq_false_iff_ne, Bool.not_eq_true, Bool.not_eq_true', Bool.not_eq_false, Bool.not_eq_false', ne_eq, Bool.and_eq_true, Bool.or_eq_true, true_eq_decide_iff, false_eq_decide_iff] at h)) <;> (try omega))
        | (refine Sm_split (fun h => ?_) (fun h => ?_) <;> (try (simp only [decide_eq_true_eq, decide_eq_false_iff_not, bne_iff_ne, beq_iff_eq, bne_eq_false_iff_eq, beq_eq_false_iff_ne, Bool.not_eq_true, Bool.not_eq_true', Bool.not_eq_false, Bool.not_eq_false', ne_eq, Bool.and_eq_true, Bool.or_eq_true, true_eq_decide_iff, false_eq_decide_iff] at h)) <;> (try omega))
        | (exact ret_p rfl ⟨rfl, rfl⟩)
        | (refine ret_okv (by first | trivial | simp only [go_sem, detD, detDs, detP, and_self, and_true]) ?_)
        | (exact ret_gen _ _ _ rfl rfl rfl ⟨rfl, rfl⟩)
        | (simp only [Option.some.injEq, DV.tup.injEq, DV.p.injEq, List.cons.injEq, PV.int.injEq, PV.bool.injEq, PV.str.injEq, and_true, true_and])
        | rfl
        | (refine Bool.eq_iff_iff.2 ?_; simp only [decide_eq_true_eq, Bool.and_eq_true, Bool.or_eq_true, Bool.not_eq_true', decide_eq_false_iff_not, Bool.false_eq_true, beq_iff_eq, bne_iff_ne, ne_eq, false_iff, iff_false, true_iff, iff_true]; omega)
        | omega)
      refine Dm_loop [0, 1, 6, 7, 8, 9] (fun m ds H' => ∃ x : Nat, x ≤ 60 ∧ m = 60 - x ∧ ds = [.p (spS xs), .p (slI .i64 cs), .p (.str (scrTo xs ls y)), .p (.int .i64 y), .p (.str (rowTo xs ls y x)), .p (.int .i64 x)] ∧ H' = []) 60 ⟨0, by omega, by omega, by rw [row_zero]; rfl, rfl⟩ ?_
      rintro m ds H' ⟨x, hx, rfl, rfl, rfl⟩ -
      have hrl := row_len (xs := xs) (ls := ls) (y := y) (n := x)
      rcases Nat.lt_or_ge x 60 with hxl | hxl
      · have hbx := hby x y
        have hrs := row_succ (xs := xs) (ls := ls) (y := y) (x := x)
        generalize byteO xs ls ⟨x, y⟩ = B at *
        repeat' (first
          | (simp only [go_sem, reduceIte, Nat.reduceEqDiff, Nat.reduceAdd, Nat.reduceLeDiff])
          | (simp (disch := omega) only [w64, nadd1])
          | (refine Rm_need (by first | exact True.intro | omega | (simp; omega)) ?_)
          | (refine Rm_w rfl (hbx) (by trivial) ?_)
          | (refine Rm_w ?_ (hbx) (by trivial) ?_; · (simp [viewOfs, viewOf, List.take_of_length_le, cutL]; done))
          | (refine Rm_gi (by first | omega | (simp; omega)) ?_)
          | (refine Rm_gb (by first | omega | (simp; omega)) ?_)
          | (refine Rm_ga (by first | omega | (simp; omega)) _ rfl (Nat.le_of_ble_eq_true rfl) ?_)
          | (refine Rm_gm (by first | omega | (simp; omega)) _ rfl ?_)
          | (refine Rm_part _ _ rfl rfl ?_)
          | (refine Rm_puti (by first | omega | (simp; omega)) rfl ?_)
          | (refine Dm_draw [] (by simp) ?_)
          | (refine Tm_both ?_ ?_)
          | (refine Tm_fin (by simp only [hideOK, newsE]; simp []) ?_)
          | (refine Cm_split (fun h => ?_) (fun h => ?_) <;> (try (simp only [decide_eq_true_eq, decide_eq_false_iff_not] at h)) <;> (try omega))
          | (refine Gm_split (fun h => ?_) (fun h => ?_) <;> (try simp only [ne_eq, Bool.not_eq_true, Bool.not_eq_false] at h) <;> (try rw [h]) <;> (try (simp only [decide_eq_true_eq, decide_eq_false_iff_not, bne_iff_ne, beq_iff_eq, bne_eq_false_iff_eq, beq_eq_false_iff_ne, Bool.not_eq_true, Bool.not_eq_true', Bool.not_eq_false, Bool.not_eq_false', ne_eq, Bool.and_eq_true, Bool.or_eq_true, true_eq_decide_iff, false_eq_decide_iff] at h)) <;> (try omega))
          | (refine Sm_split (fun h => ?_) (fun h => ?_) <;> (try (simp only [decide_eq_true_eq, decide_eq_false_iff_not, bne_iff_ne, beq_iff_eq, bne_eq_false_iff_eq, beq_eq_false_iff_ne, Bool.not_eq_true, Bool.not_eq_true', Bool.not_eq_false, Bool.not_eq_false', ne_eq, Bool.and_eq_true, Bool.or_eq_true, true_eq_decide_iff, false_eq_decide_iff] at h)) <;> (try omega))
          | (exact ret_p rfl ⟨rfl, rfl⟩)
          | (refine ret_okv (by first | trivial | simp only [go_sem, detD, detDs, detP, and_self, and_true]) ?_)
          | (exact ret_gen _ _ _ rfl rfl rfl ⟨rfl, rfl⟩)
          | (simp only [Option.some.injEq, DV.tup.injEq, DV.p.injEq, List.cons.injEq, PV.int.injEq, PV.bool.injEq, PV.str.injEq, and_true, true_and])
          | rfl
          | (refine Bool.eq_iff_iff.2 ?_; simp only [decide_eq_true_eq, Bool.and_eq_true, Bool.or_eq_true, Bool.not_eq_true', decide_eq_false_iff_not, Bool.false_eq_true, beq_iff_eq, bne_iff_ne, ne_eq, false_iff, iff_false, true_iff, iff_true]; omega)
          | omega)
        refine Xm_inv_n (60 - (x + 1)) (by omega) ⟨x + 1, by omega, rfl, ?_, rfl⟩
        rw [hrs]; rfl
      · obtain rfl : x = 60 := by omega
        repeat' (first
          | (simp only [go_sem, reduceIte, Nat.reduceEqDiff, Nat.reduceSub, Nat.reduceLeDiff])
          | (simp (disch := omega) only [w64, nadd1])
          | (refine Rm_need (by first | exact True.intro | omega | (simp; omega)) ?_)
          | (refine Rm_gi (by first | omega | (simp; omega)) ?_)
          | (refine Rm_gb (by first | omega | (simp; omega)) ?_)
          | (refine Rm_ga (by first | omega | (simp; omega)) _ rfl (Nat.le_of_ble_eq_true rfl) ?_)
          | (refine Rm_gm (by first | omega | (simp; omega)) _ rfl ?_)
          | (refine Rm_part _ _ rfl rfl ?_)
          | (refine Rm_puti (by first | omega | (simp; omega)) rfl ?_)
          | (refine Dm_draw [] (by simp) ?_)
          | (refine Tm_both ?_ ?_)
          | (refine Tm_fin (by simp only [hideOK, newsE]; simp []) ?_)
          | (refine Cm_split (fun h => ?_) (fun h => ?_) <;> (try (simp only [decide_eq_true_eq, decide_eq_false_iff_not] at h)) <;> (try omega))
          | (refine Gm_split (fun h => ?_) (fun h => ?_) <;> (try simp only [ne_eq, Bool.not_eq_true, Bool.not_eq_false] at h) <;> (try rw [h]) <;> (try (simp only [decide_eq_true_eq, decide_eq_false_iff_not, bne_iff_ne, beq_iff_eq, bne_eq_false_iff_eq, beq_eq_false_iff_ne, Bool.not_eq_true, Bool.not_eq_true', Bool.not_eq_false, Bool.not_eq_false', ne_eq, Bool.and_eq_true, Bool.or_eq_true, true_eq_decide_iff, false_eq_decide_iff] at h)) <;> (try omega))
          | (refine Sm_split (fun h => ?_) (fun h => ?_) <;> (try (simp only [decide_eq_true_eq, decide_eq_false_iff_not, bne_iff_ne, beq_iff_eq, bne_eq_false_iff_eq, beq_eq_false_iff_ne, Bool.not_eq_true, Bool.not_eq_true', Bool.not_eq_false, Bool.not_eq_false', ne_eq, Bool.and_eq_true, Bool.or_eq_true, true_eq_decide_iff, false_eq_decide_iff] at h)) <;> (try omega))
          | (exact ret_p rfl ⟨rfl, rfl⟩)
          | (refine ret_okv (by first | trivial | simp only [go_sem, detD, detDs, detP, and_self, and_true]) ?_)
          | (exact ret_gen _ _ _ rfl rfl rfl ⟨rfl, rfl⟩)
          | (simp only [Option.some.injEq, DV.tup.injEq, DV.p.injEq, List.cons.injEq, PV.int.injEq, PV.bool.injEq, PV.str.injEq, and_true, true_and])
          | rfl
          | (refine Bool.eq_iff_iff.2 ?_; simp only [decide_eq_true_eq, Bool.and_eq_true, Bool.or_eq_true, Bool.not_eq_true', decide_eq_false_iff_not, Bool.false_eq_true, beq_iff_eq, bne_iff_ne, ne_eq, false_iff, iff_false, true_iff, iff_true]; omega)
          | omega)
        refine Xm_inv_n (30 - (y + 1)) (by omega) ⟨y + 1, by omega, rfl, ?_, rfl⟩
        rw [hss, ← List.append_assoc]; rfl
    · obtain rfl : y = 30 := by omega
      repeat' (first
        | (simp only [go_sem, reduceIte, Nat.reduceEqDiff, Nat.reduceSub])
        | (simp (disch := omega) only [w64, w8, bytesOf_cons, tmod10, tdiv10, tn48, nsub1, nadd1, nsub, nadd, nmul, List.take_length, Int.toNat_zero, Int.reduceAdd, Int.reduceSub, Int.reduceToNat, Int.reduceMul, Nat.sub_zero, Nat.min_self])
        | (refine Rm_need (by first | exact True.intro | omega | (simp; omega)) ?_)
        | (refine Rm_gi (by first | omega | (simp; omega)) ?_)
        | (refine Rm_gb (by first | omega | (simp; omega)) ?_)
        | (refine Rm_ga (by first | omega | (simp; omega)) _ rfl (Nat.le_of_ble_eq_true rfl) ?_)
        | (refine Rm_gm (by first | omega | (simp; omega)) _ rfl ?_)
        | (refine Rm_part _ _ rfl rfl ?_)
        | (refine Rm_puti (by first | omega | (simp; omega)) rfl ?_)
        | (refine Dm_draw [] (by simp) ?_)
        | (refine Tm_both ?_ ?_)
        | (refine Tm_fin (by simp only [hideOK, newsE]; simp []) ?_)
        | (refine Cm_split (fun h => ?_) (fun h => ?_) <;> (try (simp only [decide_eq_true_eq, decide_eq_false_iff_not] at h)) <;> (try omega))
        | (refine Gm_split (fun h => ?_) (fun h => ?_) <;> (try simp only [ne_eq, Bool.not_eq_true, Bool.not_eq_false] at h) <;> (try rw [h]) <;> (try (simp only [decide_eq_true_eq, decide_eq_false_iff_not, bne_iff_ne, beq_iff_eq, bne_eq_false_iff_eq, beq_eq_false_iff_ne, Bool.not_eq_true, Bool.not_eq_true', Bool.not_eq_false, Bool.not_eq_false', ne_eq, Bool.and_eq_true, Bool.or_eq_true, true_eq_decide_iff, false_eq_decide_iff] at h)) <;> (try omega))
        | (refine Sm_split (fun h => ?_) (fun h => ?_) <;> (try (simp only [decide_eq_true_eq, decide_eq_false_iff_not, bne_iff_ne, beq_iff_eq, bne_eq_false_iff_eq, beq_eq_false_iff_ne, Bool.not_eq_true, Bool.not_eq_true', Bool.not_eq_false, Bool.not_eq_false', ne_eq, Bool.and_eq_true, Bool.or_eq_true, true_eq_decide_iff, false_eq_decide_iff] at h)) <;> (try omega))
        | (exact ret_p rfl ⟨rfl, rfl⟩)
        | (refine ret_okv (by first | trivial | simp only [go_sem, detD, detDs, detP, and_self, and_true]) ?_)
        | (exact ret_gen _ _ _ rfl rfl rfl ⟨rfl, rfl⟩)
        | (simp only [Option.some.injEq, DV.tup.injEq, DV.p.injEq, List.cons.injEq, PV.int.injEq, PV.bool.injEq, PV.str.injEq, and_true, true_and])
        | rfl
        | (refine Bool.eq_iff_iff.2 ?_; simp only [decide_eq_true_eq, Bool.and_eq_true, Bool.or_eq_true, Bool.not_eq_true', decide_eq_false_iff_not, Bool.false_eq_true, beq_iff_eq, bne_iff_ne, ne_eq, false_iff, iff_false, true_iff, iff_true]; omega)
        | omega)
end Go.Proofs.Ytakpkggmhgkicaa

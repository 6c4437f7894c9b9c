import Derived.Test.YtjmgaminkacemaaLog
namespace Go.Proofs.Ytjmgaminkacemaa
open Go.Dv Go.Dv.EvL
attribute [local irreducible] Ok Rm Dm Om Sm Xm Cm Gm Hm Tm

structure Lg where
  dur : List UInt8
  pend : List UInt8
  cnt : Int
deriving DecidableEq
def Lg.pv (l : Lg) : PV := .agg [.str l.dur, .str l.pend, .int .i64 l.cnt]
theorem lg_pv (l : Lg) : l.pv = .agg [.str l.dur, .str l.pend, .int .i64 l.cnt] := rfl
def logB (l : Lg) : Bool := decide (((openS (l.dur ++ l.pend)).2 : Int) = l.dur.length + l.pend.length) && decide (((openS l.dur).2 : Int) = l.dur.length) && decide (l.cnt = (openS (l.dur ++ l.pend)).1.length)

theorem read_len {L : List UInt8} {k : Nat} (hk : k ≤ 1000) (h : (readR L k).2 = true) : L.length ≤ 388 := by
  have key : ∀ e : Rec, recB e = true → lineR k e = L ++ [10] → L.length ≤ 388 := fun e h1 h2 => by
    have h3 := recB_len h1
    have h4 := body_len k e (by omega)
    have h5 := (seal_len (body k e)).2
    have h6 := congrArg List.length h2
    unfold lineR at h6
    simp only [List.length_append, List.length_cons, List.length_nil] at h6
    omega
  unfold readR at h
  simp only [] at h
  split at h
  · cases h
  · split at h
    · cases h
    · simp only [Bool.and_eq_true, decide_eq_true_eq] at h
      exact key _ h.1 h.2
theorem openR_bound : ∀ (m k : Nat) (t : List UInt8), m + k ≤ 1000 → (openR m k t).2 ≤ 389 * m ∧ (openR m k t).2 ≤ t.length ∧ (openR m k t).1.length ≤ m
  | 0, _, _, _ => by simp [openR]
  | m + 1, k, t, h => by
    rw [openR]
    split
    · rename_i hc
      have h1 := read_len (by omega) hc.2
      have h2 := openR_bound m (k + 1) (t.drop ((headB 10 t).length + 1)) (by omega)
      have h3 := headB_lt hc.1
      rw [List.length_drop] at h2
      simp only [List.length_cons]
      omega
    · simp
theorem openS_bound (s : List UInt8) : (openS s).2 ≤ 23340 ∧ (openS s).2 ≤ s.length ∧ (openS s).1.length ≤ 60 := by
  have := openR_bound 60 0 s (by omega)
  unfold openS
  omega

set_option maxRecDepth 100000 in
set_option maxHeartbeats 16000000 in
/-- spec.l27Log -/
theorem k_l27Log (l : Lg) (h1 : l.dur.length ≤ 1073741824) (h2 : l.pend.length ≤ 1073741824) : Okv Try.prog 50 [l.pv] (.p (.bool (logB l))) := by
  refine ok_D hmix c_spec_l27Log (by simp) ?_
  have ha := k_l27Open (l.dur ++ l.pend) (by simp; omega)
  have hb := k_l27Open l.dur (by omega)
  have hc := openS_bound (l.dur ++ l.pend)
  have hd : logB l = (decide (((openS (l.dur ++ l.pend)).2 : Int) = l.dur.length + l.pend.length) && decide (((openS l.dur).2 : Int) = l.dur.length) && decide (l.cnt = (openS (l.dur ++ l.pend)).1.length)) := rfl
  generalize openS (l.dur ++ l.pend) = X at *
  generalize openS l.dur = Y at *
  rw [lg_pv]
  simp only [envOf, envFrom, go_sem, reduceIte, Nat.reduceEqDiff, Nat.reduceAdd, Nat.reduceLeDiff, Bool.false_eq_true]
  repeat' (first
    | (simp only [go_sem, reduceIte, Nat.reduceEqDiff, Nat.reduceBEq, Nat.reduceAdd, Nat.reduceLeDiff, Bool.false_eq_true])
    | (simp (disch := omega) only [w64, nadd])
    | (refine Rm_need (by first | exact True.intro | omega | (simp; omega)) ?_)
    | (refine Rm_o ha rfl (fun r H2 hh => ?_); obtain ⟨rfl, rfl⟩ := hh)
    | (refine Rm_o hb rfl (fun r H2 hh => ?_); obtain ⟨rfl, rfl⟩ := hh)
    | (refine Rm_gi (by first | omega | (simp; omega)) ?_)
    | (refine Rm_gb (by first | omega | (simp; omega)) ?_)
    | (refine Rm_ga (by first | omega | (simp; omega)) _ rfl (Nat.le_of_ble_eq_true rfl) ?_)
    | (refine Rm_gm (by first | omega | (simp; omega)) _ rfl ?_)
    | (refine Rm_part _ _ rfl rfl ?_)
    | (refine Rm_puti (by first | omega | (simp; omega)) rfl ?_)
    | (refine Dm_draw [] (by simp) ?_)
    | (refine Tm_both ?_ ?_)
    | (refine Tm_fin (by simp only [hideOK, newsE]; simp []) ?_)
    | (refine Cm_split (fun h => ?_) (fun h => ?_) <;> (try (simp only [decide_eq_true_eq, decide_eq_false_iff_not] at h)) <;> (try omega))
    | (refine Gm_split (fun h => ?_) (fun h => ?_) <;> (try simp only [ne_eq, Bool.not_eq_true, Bool.not_eq_false] at h) <;> (try rw [h]) <;> (try (simp only [decide_eq_true_eq, decide_eq_false_iff_not, bne_iff_ne, beq_iff_eq, bne_eq_false_iff_eq, beq_eq_false_iff_ne, Bool.not_eq_true, Bool.not_eq_true', Bool.not_eq_false, Bool.not_eq_false', ne_eq, Bool.and_eq_true, Bool.or_eq_true, true_eq_decide_iff, false_eq_decide_iff] at h)) <;> (try omega))
    | (refine Sm_split (fun h => ?_) (fun h => ?_) <;> (try (simp only [beq_iff_eq, beq_eq_false_iff_ne, ne_eq] at h)) <;> (try omega))
    | (exact ret_p rfl ⟨rfl, rfl⟩)
    | (refine ret_okv (by first | trivial | simp only [go_sem, detD, detDs, detP, and_self, and_true]) ?_)
    | (exact ret_gen _ _ _ rfl rfl rfl ⟨rfl, rfl⟩)
    | (simp only [Option.some.injEq, DV.p.injEq, PV.bool.injEq])
    | rfl
    | (refine Bool.eq_iff_iff.2 ?_; simp only [Bool.false_eq_true, beq_iff_eq, false_iff]; omega)
    | omega)
  all_goals grind
set_option maxRecDepth 100000 in
set_option maxHeartbeats 16000000 in
/-- impl.IsValidLog -/
theorem k_iValidLog (l : Lg) (h1 : l.dur.length ≤ 1073741824) (h2 : l.pend.length ≤ 1073741824) : Okv Try.prog 35 [l.pv] (.p (.bool (logB l))) := by
  refine ok_D hmix c_impl_IsValidLog (by simp) ?_
  have ha := k_recovered (l.dur ++ l.pend) (by simp; omega)
  have hb := k_recovered l.dur (by omega)
  have hd : logB l = (decide (((openS (l.dur ++ l.pend)).2 : Int) = l.dur.length + l.pend.length) && decide (((openS l.dur).2 : Int) = l.dur.length) && decide (l.cnt = (openS (l.dur ++ l.pend)).1.length)) := rfl
  generalize openS (l.dur ++ l.pend) = X at *
  generalize openS l.dur = Y at *
  rw [lg_pv]
  simp only [envOf, envFrom, go_sem, reduceIte, Nat.reduceEqDiff, Nat.reduceAdd, Nat.reduceLeDiff, Bool.false_eq_true]
  repeat' (first
    | (simp only [go_sem, reduceIte, Nat.reduceEqDiff, Nat.reduceBEq, Nat.reduceAdd, Nat.reduceLeDiff, Bool.false_eq_true])
    | (simp (disch := omega) only [w64, nadd])
    | (refine Rm_need (by first | exact True.intro | omega | (simp; omega)) ?_)
    | (refine Rm_o ha rfl (fun r H2 hh => ?_); rcases hh with ⟨rfl, rfl⟩ | ⟨rfl, rfl, hn⟩)
    | (refine Rm_o hb rfl (fun r H2 hh => ?_); rcases hh with ⟨rfl, rfl⟩ | ⟨rfl, rfl, hn2⟩)
    | (refine Rm_gi (by first | omega | (simp; omega)) ?_)
    | (refine Rm_gb (by first | omega | (simp; omega)) ?_)
    | (refine Rm_ga (by first | omega | (simp; omega)) _ rfl (Nat.le_of_ble_eq_true rfl) ?_)
    | (refine Rm_gm (by first | omega | (simp; omega)) _ rfl ?_)
    | (refine Rm_part _ _ rfl rfl ?_)
    | (refine Rm_puti (by first | omega | (simp; omega)) rfl ?_)
    | (refine Dm_draw [] (by simp) ?_)
    | (refine Tm_both ?_ ?_)
    | (refine Tm_fin (by simp only [hideOK, newsE]; simp []) ?_)
    | (refine Cm_split (fun h => ?_) (fun h => ?_) <;> (try (simp only [decide_eq_true_eq, decide_eq_false_iff_not, bne_iff_ne, beq_iff_eq, bne_eq_false_iff_eq, beq_eq_false_iff_ne, Bool.not_eq_true, Bool.not_eq_true', Bool.not_eq_false, Bool.not_eq_false', ne_eq, Bool.and_eq_true, Bool.or_eq_true, true_eq_decide_iff, false_eq_decide_iff] at h)) <;> (try omega))
    | (refine Gm_split (fun h => ?_) (fun h => ?_) <;> (try simp only [ne_eq, Bool.not_eq_true, Bool.not_eq_false] at h) <;> (try rw [h]) <;> (try (simp only [decide_eq_true_eq, decide_eq_false_iff_not, bne_iff_ne, beq_iff_eq, bne_eq_false_iff_eq, beq_eq_false_iff_ne, Bool.not_eq_true, Bool.not_eq_true', Bool.not_eq_false, Bool.not_eq_false', ne_eq, Bool.and_eq_true, Bool.or_eq_true, true_eq_decide_iff, false_eq_decide_iff] at h)) <;> (try omega))
    | (refine Sm_split (fun h => ?_) (fun h => ?_) <;> (try (simp only [beq_iff_eq, beq_eq_false_iff_ne, ne_eq] at h)) <;> (try omega))
    | (exact ret_p rfl ⟨rfl, rfl⟩)
    | (refine ret_okv (by first | trivial | simp only [go_sem, detD, detDs, detP, and_self, and_true]) ?_)
    | (exact ret_gen _ _ _ rfl rfl rfl ⟨rfl, rfl⟩)
    | (simp only [Option.some.injEq, DV.p.injEq, PV.bool.injEq])
    | rfl
    | (refine Bool.eq_iff_iff.2 ?_; simp only [Bool.false_eq_true, beq_iff_eq, false_iff]; omega)
    | omega)
  all_goals grind
end Go.Proofs.Ytjmgaminkacemaa

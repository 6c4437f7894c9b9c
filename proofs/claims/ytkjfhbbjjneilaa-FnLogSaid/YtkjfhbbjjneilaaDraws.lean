import Derived.Test.YtkjfhbbjjneilaaPick
import Derived.Test.YtkjfhbbjjneilaaCrash
import Derived.Test.YtkjfhbbjjneilaaRecs2
namespace Go.Proofs.Ytkjfhbbjjneilaa
open Go.Dv Go.Dv.EvL
attribute [local irreducible] Ok Rm Dm Om Sm Xm Cm Gm Hm Tm

/-- a record of moderate size -/
def RecIn (e : Rec) : Prop := e.cmd.length ≤ 1000 ∧ e.reply.length ≤ 1000
def LgIn (l : Lg) : Prop := l.dur.length + l.pend.length ≤ 100000 ∧ 0 ≤ l.cnt ∧ l.cnt ≤ 61
theorem rec_mk {a b : List UInt8} : DV.p (.agg [.str a, .str b]) = .p (Rec.pv ⟨a, b⟩) := rfl
set_option maxRecDepth 100000 in
set_option maxHeartbeats 16000000 in
/-- spec.l1Cur.logRecord -/
theorem k_logRecord (code : List UInt8) (a s : Int) (hc : code.length ≤ 65536) (ha : 0 ≤ a ∧ a ≤ 1000000) : Ok Try.prog 57 [.ptr 0 0 0] [curO code a s]
    fun d H => ∃ (e : Rec) (a' s' : Int), d = .p e.pv ∧ RecIn e ∧ a ≤ a' ∧ a' ≤ a + 10 ∧ H = [curO code a' s'] := by
  refine ok_D hmix c_spec_l1Cur_logRecord (by simp) ?_
  simp only [envOf, envFrom, go_sem, Nat.lt_add_one, reduceIte, Nat.reduceEqDiff, Nat.reduceAdd, Nat.reduceMul, Nat.reduceLeDiff, Nat.reduceLT]
  repeat' (first
    | (simp only [go_sem, Nat.lt_add_one, reduceIte, Nat.reduceEqDiff, Nat.reduceAdd, Nat.reduceMul, Nat.reduceLeDiff, Nat.reduceLT])
    | (simp (disch := omega) only [Int.reduceToNat, Nat.min_self])
    | (refine Rm_need (by first | exact True.intro | omega | (simp; omega)) ?_)
    | (refine Rm_pick hc rfl (by omega) (by first | omega | (simp; omega)) (fun r a1 s1 q2 q3 q4 => ?_))
    | (refine Rm_one hc rfl (by omega) (by first | omega | (simp; omega)) (fun r a1 s1 q3 q4 => ?_))
    | (refine Rm_of 1000 hc rfl rfl rfl (by omega) (by omega) (by first | decide | omega) (by decide) (fun r a1 s1 q1 q2 q3 q4 => ?_); clear q2)
    | (refine Rm_among (-1000000000000) 1000000000000 hc rfl rfl rfl (by omega) (by omega) (by first | decide | (simp; omega)) (by decide) (fun r a1 s1 q1 q2 q5 q3 q4 => ?_); clear q5)
    | (rw [bytes_zero])
    | (refine Rm_gi (by first | omega | (simp; omega)) ?_)
    | (refine Rm_gb (by first | omega | (simp; omega)) ?_)
    | (refine Rm_ga (by first | omega | (simp; omega)) _ rfl (Nat.le_of_ble_eq_true rfl) ?_)
    | (refine Rm_gm (by first | omega | (simp; omega)) _ rfl ?_)
    | (refine Rm_puti (by first | omega | (simp; omega)) rfl ?_)
    | (refine Dm_draw [] (by simp) ?_)
    | (refine Tm_both ?_ ?_)
    | (refine Tm_fin (by simp only [hideOK, newsE]; simp []) ?_)
    | (refine Cm_split (fun h => ?_) (fun h => ?_) <;> (try (simp only [beq_iff_eq, beq_eq_false_iff_ne, ne_eq] at h)) <;> (try omega))
    | (refine Gm_split (fun h => ?_) (fun h => ?_) <;> (try simp only [ne_eq, Bool.not_eq_true, Bool.not_eq_false] at h) <;> (try rw [h]) <;> (try (simp only [decide_eq_true_eq, decide_eq_false_iff_not, bne_iff_ne, beq_iff_eq, bne_eq_false_iff_eq, beq_eq_false_iff_ne, Bool.not_eq_true, Bool.not_eq_true', Bool.not_eq_false, Bool.not_eq_false', ne_eq, Bool.and_eq_true, Bool.or_eq_true, true_eq_decide_iff, false_eq_decide_iff] at h)) <;> (try omega))
    | (refine Sm_split (fun h => ?_) (fun h => ?_) <;> (try (simp only [decide_eq_true_eq, decide_eq_false_iff_not, bne_iff_ne, beq_iff_eq, bne_eq_false_iff_eq, beq_eq_false_iff_ne, Bool.not_eq_true, Bool.not_eq_true', Bool.not_eq_false, Bool.not_eq_false', ne_eq, Bool.and_eq_true, Bool.or_eq_true, true_eq_decide_iff, false_eq_decide_iff] at h)) <;> (try omega))
    | (exact ret_p rfl ⟨rfl, rfl⟩)
    | (refine ret_okv (by first | trivial | simp only [go_sem, detD, detDs, detP, and_self, and_true]) ?_)
    | (exact ret_gen _ _ _ rfl rfl rfl ⟨rfl, rfl⟩)
    | (simp only [Option.some.injEq, DV.tup.injEq, DV.p.injEq, List.cons.injEq, PV.int.injEq, PV.bool.injEq, PV.str.injEq, and_true, true_and])
    | rfl
    | (refine Bool.eq_iff_iff.2 ?_; simp only [decide_eq_true_eq, Bool.and_eq_true, Bool.or_eq_true, Bool.not_eq_true', decide_eq_false_iff_not, Bool.false_eq_true, beq_iff_eq, bne_iff_ne, ne_eq, false_iff, iff_false, true_iff, iff_true]; omega)
    | omega)
  all_goals exact ret_gen _ _ _ rfl rfl rfl ⟨⟨_, _⟩, _, _, rfl, ⟨by assumption, by assumption⟩, by omega, by omega, rfl⟩

theorem lineR_len {k : Nat} {e : Rec} (hk : k ≤ 9223372036854775807) : (lineR k e).length ≤ 30 + e.cmd.length + e.reply.length := by
  have h1 := body_len k e hk
  have h2 := (seal_len (body k e)).2
  simp only [lineR, List.length_append, List.length_cons, List.length_nil]
  omega
theorem append_sz (l : Lg) (e : Rec) (h : 0 ≤ l.cnt ∧ l.cnt ≤ 60) : (appendO l e).1.dur.length + (appendO l e).1.pend.length ≤ l.dur.length + l.pend.length + 400 ∧ 0 ≤ (appendO l e).1.cnt ∧ (appendO l e).1.cnt ≤ 60 := by
  unfold appendO
  split
  · rename_i hv
    have hr := recB_len hv.2
    have hl := lineR_len (k := l.cnt.toNat) (e := e) (by omega)
    split
    · exact ⟨by simp only []; omega, h⟩
    · rename_i h60
      exact ⟨by simp only [List.length_append]; omega, by simp only []; omega⟩
  · exact ⟨by simp only []; omega, h⟩
theorem sync_sz (l : Lg) (h : 0 ≤ l.cnt ∧ l.cnt ≤ 60) : (syncO l).1.dur.length + (syncO l).1.pend.length ≤ l.dur.length + l.pend.length ∧ 0 ≤ (syncO l).1.cnt ∧ (syncO l).1.cnt ≤ 60 := by
  unfold syncO
  split
  · exact ⟨by simp, h⟩
  · exact ⟨by simp [noLg], by simp [noLg]⟩
def lgO (l : Lg) : OB := .box 33 [.p (.str l.dur), .p (.str l.pend), .p (.int .i64 l.cnt)]
set_option maxRecDepth 100000 in
set_option maxHeartbeats 16000000 in
/-- spec.SyncLog, roughly -/
theorem k_sSyncW (l : Lg) (hl : l.dur.length + l.pend.length ≤ 1000000) (hn : 0 ≤ l.cnt ∧ l.cnt ≤ 60) : Okw Try.prog 29 [l.pv] fun d H => ∃ (x y : List UInt8) (z : Int) (b : Bool), d = .tup [.p (.agg [.str x, .str y, .int .i64 z]), .p (.bool b)] ∧ H = [] ∧
    x.length + y.length ≤ l.dur.length + l.pend.length ∧ 0 ≤ z ∧ z ≤ 60 := by
  refine (k_sSync l (by omega) (by omega)).mono fun d H hh => ?_
  obtain ⟨rfl, rfl⟩ := hh
  have := sync_sz l hn
  exact ⟨_, _, _, _, rfl, rfl, this⟩
set_option maxRecDepth 100000 in
set_option maxHeartbeats 16000000 in
/-- spec.AppendRecord, roughly -/
theorem k_sAppendW (l : Lg) (e : Rec) (hl : l.dur.length + l.pend.length ≤ 1000000) (hn : 0 ≤ l.cnt ∧ l.cnt ≤ 60) (he : RecIn e) : Okw Try.prog 31 [l.pv, e.pv] fun d H => ∃ (x y : List UInt8) (z : Int) (b : Int), d = .tup [.p (.agg [.str x, .str y, .int .i64 z]), .p (.int .i64 b)] ∧ H = [] ∧
    x.length + y.length ≤ l.dur.length + l.pend.length + 400 ∧ 0 ≤ z ∧ z ≤ 60 := by
  unfold RecIn at he
  refine (k_sAppend l e (by omega) (by omega) (by omega) (by omega)).mono fun d H hh => ?_
  obtain ⟨rfl, rfl⟩ := hh
  have := append_sz l e hn
  exact ⟨_, _, _, _, rfl, rfl, this⟩
set_option maxRecDepth 100000 in
set_option maxHeartbeats 16000000 in
/-- spec.l1Cur.log -/
theorem k_log (code : List UInt8) (a s : Int) (hc : code.length ≤ 65536) (ha : 0 ≤ a ∧ a ≤ 900000) : Ok Try.prog 58 [.ptr 0 0 0] [curO code a s]
    fun d H => ∃ (x y : List UInt8) (z a' s' : Int), d = .p (.agg [.str x, .str y, .int .i64 z]) ∧ x.length + y.length ≤ 10000 ∧ 0 ≤ z ∧ z ≤ 60 ∧ a ≤ a' ∧ a' ≤ a + 200 ∧ H = [curO code a' s'] := by
  refine ok_D hmix c_spec_l1Cur_log (by simp) ?_
  simp only [envOf, envFrom, go_sem, reduceIte, Nat.reduceEqDiff, Nat.reduceAdd, Nat.reduceLeDiff]
  repeat' (first
    | (simp only [go_sem, reduceIte, Nat.reduceEqDiff])
    | (simp (disch := omega) only [w64, w8, bytesOf_cons, tmod10, tdiv10, tn48, nsub1, nadd1, nsub, nadd, nmul, List.take_length, Int.toNat_zero, Int.reduceAdd, Int.reduceSub, Int.reduceToNat, Int.reduceMul, Nat.sub_zero, Nat.min_self])
    | (refine Rm_need (by first | exact True.intro | omega | (simp; omega)) ?_)
    | (refine Rm_pick hc rfl (by omega) (by first | omega | (simp; omega)) (fun r a1 s1 q2 q3 q4 => ?_))
    | (refine Rm_one hc rfl (by omega) (by first | omega | (simp; omega)) (fun r a1 s1 q3 q4 => ?_))
    | (refine Rm_of 1000 hc rfl rfl rfl (by omega) (by omega) (by first | decide | omega) (by decide) (fun r a1 s1 q1 q2 q3 q4 => ?_); clear q2)
    | (refine Rm_among (-1000000000000) 1000000000000 hc rfl rfl rfl (by omega) (by omega) (by first | decide | (simp; omega)) (by decide) (fun r a1 s1 q1 q2 q5 q3 q4 => ?_); clear q5)
    | (refine Rm_gi (by first | omega | (simp; omega)) ?_)
    | (refine Rm_gb (by first | omega | (simp; omega)) ?_)
    | (refine Rm_ga (by first | omega | (simp; omega)) _ rfl (Nat.le_of_ble_eq_true rfl) ?_)
    | (refine Rm_gm (by first | omega | (simp; omega)) _ rfl ?_)
    | (refine Rm_puti (by first | omega | (simp; omega)) rfl ?_)
    | (refine Dm_draw [] (by simp) ?_)
    | (refine Tm_both ?_ ?_)
    | (refine Tm_fin (by simp only [hideOK, newsE]; simp []) ?_)
    | (refine Cm_split (fun h => ?_) (fun h => ?_) <;> (try (simp only [decide_eq_true_eq, decide_eq_false_iff_not, bne_iff_ne, beq_iff_eq, bne_eq_false_iff_eq, beq_eq_false_iff_ne, Bool.not_eq_true, Bool.not_eq_true', Bool.not_eq_false, Bool.not_eq_false', ne_eq, Bool.and_eq_true, Bool.or_eq_true, true_eq_decide_iff, false_eq_decide_iff] at h)) <;> (try omega))
    | (refine Gm_split (fun h => ?_) (fun h => ?_) <;> (try simp only [ne_eq, Bool.not_eq_true, Bool.not_eq_false] at h) <;> (try rw [h]) <;> (try (simp only [decide_eq_true_eq, decide_eq_false_iff_not, bne_iff_ne, beq_iff_eq, bne_eq_false_iff_eq, beq_eq_false_iff_ne, Bool.not_eq_true, Bool.not_eq_true', Bool.not_eq_false, Bool.not_eq_false', ne_eq, Bool.and_eq_true, Bool.or_eq_true, true_eq_decide_iff, false_eq_decide_iff] at h)) <;> (try omega))
    | (refine Sm_split (fun h => ?_) (fun h => ?_) <;> (try (simp only [decide_eq_true_eq, decide_eq_false_iff_not, bne_iff_ne, beq_iff_eq, bne_eq_false_iff_eq, beq_eq_false_iff_ne, Bool.not_eq_true, Bool.not_eq_true', Bool.not_eq_false, Bool.not_eq_false', ne_eq, Bool.and_eq_true, Bool.or_eq_true, true_eq_decide_iff, false_eq_decide_iff] at h)) <;> (try omega))
    | (exact ret_p rfl ⟨rfl, rfl⟩)
    | (refine ret_okv (by first | trivial | simp only [go_sem, detD, detDs, detP, and_self, and_true]) ?_)
    | (exact ret_gen _ _ _ rfl rfl rfl ⟨rfl, rfl⟩)
    | (simp only [Option.some.injEq, DV.tup.injEq, DV.p.injEq, List.cons.injEq, PV.int.injEq, PV.bool.injEq, PV.str.injEq, and_true, true_and])
    | rfl
    | (refine Bool.eq_iff_iff.2 ?_; simp only [decide_eq_true_eq, Bool.and_eq_true, Bool.or_eq_true, Bool.not_eq_true', decide_eq_false_iff_not, Bool.false_eq_true, beq_iff_eq, bne_iff_ne, ne_eq, false_iff, iff_false, true_iff, iff_true]; omega)
    | omega)
  refine Dm_loop [0, 2, 3, 4] (fun m ds H' => ∃ (x y : List UInt8) (z a' s' : Int), m ≤ 7 ∧ x.length + y.length + 400 * m ≤ 2800 ∧ 0 ≤ z ∧ z ≤ 60 ∧ a ≤ a' ∧ a' + 20 * m ≤ a + 150 ∧
    ds = [.ptr 0 0 0, .ptr 1 0 0, .ptr 2 0 0, .p (.int .i64 m)] ∧ H' = [curO code a' s', .box 33 [.p (.str []), .p (.str []), .p (.int .i64 0)], .box 33 [.p (.str x), .p (.str y), .p (.int .i64 z)]]) r
    ⟨[], [], 0, a1, s1, by omega, by simp; omega, by omega, by omega, by omega, by omega, rfl, rfl⟩ ?_
  rintro m ds H' ⟨x, y, z, a', s', hm, hl, hn0, hn1, g1, g2, rfl, rfl⟩ -
  have hk := fun (a s : Int) (h : 0 ≤ a ∧ a ≤ 1000000) => k_logRecord code a s hc h
  repeat' (first
    | (simp only [go_sem, reduceIte, Nat.reduceEqDiff, Nat.reduceAdd, Nat.reduceSub, Nat.reduceLeDiff])
    | (simp (disch := omega) only [w64, nsub1])
    | (refine Rm_need (by first | exact True.intro | omega | (simp; omega)) ?_)
    | (refine Rm_mc rfl rfl (hk _ _ (by omega)) (fun r H2 hh => ?_); obtain ⟨⟨e1, e2⟩, a2, s2, rfl, he, g3, g4, rfl⟩ := hh; simp only [rec_pv])
    | (refine Rm_o (k_sAppendW ⟨_, _, _⟩ ⟨_, _⟩ (by simp only []; omega) (by simp only []; omega) he) rfl (fun r H2 hh => ?_); obtain ⟨x2, y2, z2, b2, rfl, rfl, i1, i2, i3⟩ := hh; simp only [] at i1)
    | (refine Rm_pick hc rfl (by omega) (by first | omega | (simp; omega)) (fun r a1 s1 q2 q3 q4 => ?_))
    | (refine Rm_one hc rfl (by omega) (by first | omega | (simp; omega)) (fun r a1 s1 q3 q4 => ?_))
    | (refine Rm_of 1000 hc rfl rfl rfl (by omega) (by omega) (by first | decide | omega) (by decide) (fun r a1 s1 q1 q2 q3 q4 => ?_); clear q2)
    | (refine Rm_among (-1000000000000) 1000000000000 hc rfl rfl rfl (by omega) (by omega) (by first | decide | (simp; omega)) (by decide) (fun r a1 s1 q1 q2 q5 q3 q4 => ?_); clear q5)
    | (refine Rm_o (k_sSyncW ⟨_, _, _⟩ (by simp only []; omega) (by simp only []; omega)) rfl (fun r H2 hh => ?_); obtain ⟨x3, y3, z3, b3, rfl, rfl, j1, j2, j3⟩ := hh; simp only [] at j1)
    | (refine Rm_gi (by first | omega | (simp; omega)) ?_)
    | (refine Rm_gb (by first | omega | (simp; omega)) ?_)
    | (refine Rm_ga (by first | omega | (simp; omega)) _ rfl (Nat.le_of_ble_eq_true rfl) ?_)
    | (refine Rm_gm (by first | omega | (simp; omega)) _ rfl ?_)
    | (refine Rm_puti (by first | omega | (simp; omega)) rfl ?_)
    | (refine Dm_draw [] (by simp) ?_)
    | (refine Tm_both ?_ ?_)
    | (refine Tm_fin (by simp only [hideOK, newsE]; simp []) ?_)
    | (refine Cm_split (fun h => ?_) (fun h => ?_) <;> (try (simp only [decide_eq_true_eq, decide_eq_false_iff_not] at h)) <;> (try omega))
    | (refine Gm_split (fun h => ?_) (fun h => ?_) <;> (try simp only [ne_eq, Bool.not_eq_true, Bool.not_eq_false] at h) <;> (try rw [h]) <;> (try (simp only [decide_eq_true_eq, decide_eq_false_iff_not, bne_iff_ne, beq_iff_eq, bne_eq_false_iff_eq, beq_eq_false_iff_ne, Bool.not_eq_true, Bool.not_eq_true', Bool.not_eq_false, Bool.not_eq_false', ne_eq, Bool.and_eq_true, Bool.or_eq_true, true_eq_decide_iff, false_eq_decide_iff] at h)) <;> (try omega))
    | (refine Sm_split (fun h => ?_) (fun h => ?_) <;> (try (simp only [decide_eq_true_eq, decide_eq_false_iff_not, bne_iff_ne, beq_iff_eq, bne_eq_false_iff_eq, beq_eq_false_iff_ne, Bool.not_eq_true, Bool.not_eq_true', Bool.not_eq_false, Bool.not_eq_false', ne_eq, Bool.and_eq_true, Bool.or_eq_true, true_eq_decide_iff, false_eq_decide_iff] at h)) <;> (try omega))
    | (exact ret_p rfl ⟨rfl, rfl⟩)
    | (refine ret_okv (by first | trivial | simp only [go_sem, detD, detDs, detP, and_self, and_true]) ?_)
    | (exact ret_gen _ _ _ rfl rfl rfl ⟨rfl, rfl⟩)
    | (simp only [Option.some.injEq, DV.tup.injEq, DV.p.injEq, List.cons.injEq, PV.int.injEq, PV.bool.injEq, PV.str.injEq, and_true, true_and])
    | rfl
    | (refine Bool.eq_iff_iff.2 ?_; simp only [decide_eq_true_eq, Bool.and_eq_true, Bool.or_eq_true, Bool.not_eq_true', decide_eq_false_iff_not, Bool.false_eq_true, beq_iff_eq, bne_iff_ne, ne_eq, false_iff, iff_false, true_iff, iff_true]; omega)
    | omega)
  all_goals first
    | exact Xm_inv_n (m - 1) (by omega) ⟨x3, y3, z3, _, _, by omega, by omega, by omega, by omega, by omega, by omega, rfl, rfl⟩
    | exact Xm_inv_n (m - 1) (by omega) ⟨x2, y2, z2, _, _, by omega, by omega, by omega, by omega, by omega, by omega, rfl, rfl⟩
    | exact ret_gen _ _ _ rfl rfl rfl ⟨_, _, _, _, _, rfl, by omega, by omega, by omega, by omega, by omega, rfl⟩
    | skip
set_option maxRecDepth 100000 in
set_option maxHeartbeats 16000000 in
/-- spec.l1Cur.anyLog -/
theorem k_anyLog (code : List UInt8) (a s : Int) (hc : code.length ≤ 65536) (ha : 0 ≤ a ∧ a ≤ 800000) : Ok Try.prog 62 [.ptr 0 0 0] [curO code a s]
    fun d H => ∃ (x y : List UInt8) (z a' s' : Int), d = .p (.agg [.str x, .str y, .int .i64 z]) ∧ x.length + y.length ≤ 40000 ∧ 0 ≤ z ∧ z ≤ 61 ∧ a ≤ a' ∧ a' ≤ a + 300 ∧ H = [curO code a' s'] := by
  refine ok_D hmix c_spec_l1Cur_anyLog (by simp) ?_
  have hk := fun (a s : Int) (h : 0 ≤ a ∧ a ≤ 900000) => k_log code a s hc h
  have hs := fun (a s : Int) (t : List UInt8) (h : 0 ≤ a ∧ a ≤ 1099511627000 ∧ t.length ≤ 1000000) => k_spoilt code a s t [35, 64, 10, 48, 49] hc ⟨h.1, h.2.1⟩ h.2.2 (by simp)
  simp only [envOf, envFrom, go_sem, reduceIte, Nat.reduceEqDiff]
  repeat' (first
    | (simp only [go_sem, reduceIte, Nat.reduceEqDiff, Nat.reduceAdd, Nat.reduceLeDiff, Bool.false_eq_true])
    | (simp (disch := omega) only [w64])
    | (refine Rm_need (by first | exact True.intro | omega | (simp; omega)) ?_)
    | (refine Rm_mc rfl rfl (hk _ _ (by omega)) (fun r H2 hh => ?_); obtain ⟨x, y, z, a2, s2, rfl, hl, hn0, hn1, g3, g4, rfl⟩ := hh)
    | (refine Rm_mc rfl rfl (hs _ _ _ (by omega)) (fun r H2 hh => ?_); obtain ⟨t, a3, s3, rfl, ht, g5, g6, rfl⟩ := hh)
    | (refine Rm_pick hc rfl (by omega) (by first | omega | (simp; omega)) (fun r a1 s1 q2 q3 q4 => ?_))
    | (refine Rm_one hc rfl (by omega) (by first | omega | (simp; omega)) (fun r a1 s1 q3 q4 => ?_))
    | (refine Rm_of 1000 hc rfl rfl rfl (by omega) (by omega) (by first | decide | omega) (by decide) (fun r a1 s1 q1 q2 q3 q4 => ?_); clear q2)
    | (refine Rm_among (-1000000000000) 1000000000000 hc rfl rfl rfl (by omega) (by omega) (by first | decide | (simp; omega)) (by decide) (fun r a1 s1 q1 q2 q5 q3 q4 => ?_); clear q5)
    | (refine Rm_gi (by first | omega | (simp; omega)) ?_)
    | (refine Rm_gb (by first | omega | (simp; omega)) ?_)
    | (refine Rm_ga (by first | omega | (simp; omega)) _ rfl (Nat.le_of_ble_eq_true rfl) ?_)
    | (refine Rm_gm (by first | omega | (simp; omega)) _ rfl ?_)
    | (refine Rm_puti (by first | omega | (simp; omega)) rfl ?_)
    | (refine Dm_draw [] (by simp) ?_)
    | (refine Tm_both ?_ ?_)
    | (refine Tm_fin (by simp only [hideOK, newsE]; simp []) ?_)
    | (refine Cm_split (fun h => ?_) (fun h => ?_) <;> (try (simp only [beq_iff_eq, beq_eq_false_iff_ne, ne_eq] at h)) <;> (try omega))
    | (refine Gm_split (fun h => ?_) (fun h => ?_) <;> (try simp only [ne_eq, Bool.not_eq_true, Bool.not_eq_false] at h) <;> (try rw [h]) <;> (try (simp only [decide_eq_true_eq, decide_eq_false_iff_not, bne_iff_ne, beq_iff_eq, bne_eq_false_iff_eq, beq_eq_false_iff_ne, Bool.not_eq_true, Bool.not_eq_true', Bool.not_eq_false, Bool.not_eq_false', ne_eq, Bool.and_eq_true, Bool.or_eq_true, true_eq_decide_iff, false_eq_decide_iff] at h)) <;> (try omega))
    | (refine Sm_split (fun h => ?_) (fun h => ?_) <;> (try (simp only [decide_eq_true_eq, decide_eq_false_iff_not, bne_iff_ne, beq_iff_eq, bne_eq_false_iff_eq, beq_eq_false_iff_ne, Bool.not_eq_true, Bool.not_eq_true', Bool.not_eq_false, Bool.not_eq_false', ne_eq, Bool.and_eq_true, Bool.or_eq_true, true_eq_decide_iff, false_eq_decide_iff] at h)) <;> (try omega))
    | (exact ret_p rfl ⟨rfl, rfl⟩)
    | (refine ret_okv (by first | trivial | simp only [go_sem, detD, detDs, detP, and_self, and_true]) ?_)
    | (exact ret_gen _ _ _ rfl rfl rfl ⟨rfl, rfl⟩)
    | (simp only [Option.some.injEq, DV.tup.injEq, DV.p.injEq, List.cons.injEq, PV.int.injEq, PV.bool.injEq, PV.str.injEq, and_true, true_and])
    | rfl
    | (refine Bool.eq_iff_iff.2 ?_; simp only [decide_eq_true_eq, Bool.and_eq_true, Bool.or_eq_true, Bool.not_eq_true', decide_eq_false_iff_not, Bool.false_eq_true, beq_iff_eq, bne_iff_ne, ne_eq, false_iff, iff_false, true_iff, iff_true]; omega)
    | omega)
  all_goals first
    | exact ret_gen _ _ _ rfl rfl rfl ⟨_, _, _, _, _, rfl, by simp; omega, by omega, by omega, by omega, by omega, rfl⟩
    | exact ret_gen _ _ _ rfl rfl rfl ⟨_, _, _, _, _, rfl, by omega, by omega, by omega, by omega, by omega, rfl⟩
    | skip
set_option maxRecDepth 100000 in
set_option maxHeartbeats 16000000 in
/-- spec.DrawEncodeRecord -/
theorem k_DrawEncodeRecord (code : List UInt8) (hc : code.length ≤ 65536) : Okw Try.prog 39 [codeP code] fun d H => ∃ (k : Int) (e : Rec), d = .tup [.p (.int .i64 k), .p e.pv] ∧ H = [] ∧ W64 k ∧ RecIn e := by
  refine ok_D hmix c_spec_DrawEncodeRecord (by simp) ?_
  have hk := fun (a s : Int) (h : 0 ≤ a ∧ a ≤ 1000000) => k_logRecord code a s hc h
  simp only [envOf, envFrom, go_sem, reduceIte, Nat.reduceEqDiff, Nat.reduceAdd, Nat.reduceLeDiff]
  repeat' (first
    | (simp only [go_sem, Nat.lt_add_one, reduceIte, Nat.reduceEqDiff, Nat.reduceAdd, Nat.reduceMul, Nat.reduceLeDiff, Nat.reduceLT])
    | (simp (disch := omega) only [w64, w8, bytesOf_cons, tmod10, tdiv10, tn48, nsub1, nadd1, nsub, nadd, nmul, List.take_length, Int.toNat_zero, Int.reduceAdd, Int.reduceSub, Int.reduceToNat, Int.reduceMul, Nat.sub_zero, Nat.min_self])
    | (refine Rm_need (by first | exact True.intro | omega | (simp; omega)) ?_)
    | (unfold codeP)
    | (refine Rm_mc rfl rfl (hk _ _ (by omega)) (fun r H2 hh => ?_); obtain ⟨⟨e1, e2⟩, a2, s2, rfl, he, g3, g4, rfl⟩ := hh; simp only [rec_pv])
    | (refine Rm_pick hc rfl (by omega) (by first | omega | (simp; omega)) (fun r a1 s1 q2 q3 q4 => ?_))
    | (refine Rm_one hc rfl (by omega) (by first | omega | (simp; omega)) (fun r a1 s1 q3 q4 => ?_))
    | (refine Rm_of 1000 hc rfl rfl rfl (by omega) (by omega) (by first | decide | omega) (by decide) (fun r a1 s1 q1 q2 q3 q4 => ?_); clear q2)
    | (refine Rm_among (-1000000000000) 1000000000000 hc rfl rfl rfl (by omega) (by omega) (by first | decide | (simp; omega)) (by decide) (fun r a1 s1 q1 q2 q5 q3 q4 => ?_); clear q5)
    | (refine Rm_gi (by first | omega | (simp; omega)) ?_)
    | (refine Rm_gb (by first | omega | (simp; omega)) ?_)
    | (refine Rm_ga (by first | omega | (simp; omega)) _ rfl (Nat.le_of_ble_eq_true rfl) ?_)
    | (refine Rm_gm (by first | omega | (simp; omega)) _ rfl ?_)
    | (refine Rm_puti (by first | omega | (simp; omega)) rfl ?_)
    | (refine Dm_draw [] (by simp) ?_)
    | (refine Tm_both ?_ ?_)
    | (refine Tm_fin (by simp only [hideOK, newsE]; simp []) ?_)
    | (refine Cm_split (fun h => ?_) (fun h => ?_) <;> (try (simp only [decide_eq_true_eq, decide_eq_false_iff_not, bne_iff_ne, beq_iff_eq, bne_eq_false_iff_eq, beq_eq_false_iff_ne, Bool.not_eq_true, Bool.not_eq_true', Bool.not_eq_false, Bool.not_eq_false', ne_eq, Bool.and_eq_true, Bool.or_eq_true, true_eq_decide_iff, false_eq_decide_iff] at h)) <;> (try omega))
    | (refine Gm_split (fun h => ?_) (fun h => ?_) <;> (try simp only [ne_eq, Bool.not_eq_true, Bool.not_eq_false] at h) <;> (try rw [h]) <;> (try (simp only [decide_eq_true_eq, decide_eq_false_iff_not, bne_iff_ne, beq_iff_eq, bne_eq_false_iff_eq, beq_eq_false_iff_ne, Bool.not_eq_true, Bool.not_eq_true', Bool.not_eq_false, Bool.not_eq_false', ne_eq, Bool.and_eq_true, Bool.or_eq_true, true_eq_decide_iff, false_eq_decide_iff] at h)) <;> (try omega))
    | (refine Sm_split (fun h => ?_) (fun h => ?_) <;> (try (simp only [decide_eq_true_eq, decide_eq_false_iff_not, bne_iff_ne, beq_iff_eq, bne_eq_false_iff_eq, beq_eq_false_iff_ne, Bool.not_eq_true, Bool.not_eq_true', Bool.not_eq_false, Bool.not_eq_false', ne_eq, Bool.and_eq_true, Bool.or_eq_true, true_eq_decide_iff, false_eq_decide_iff] at h)) <;> (try omega))
    | (exact ret_p rfl ⟨rfl, rfl⟩)
    | (refine ret_okv (by first | trivial | simp only [go_sem, detD, detDs, detP, and_self, and_true]) ?_)
    | (exact ret_gen _ _ _ rfl rfl rfl ⟨rfl, rfl⟩)
    | (simp only [Option.some.injEq, DV.tup.injEq, DV.p.injEq, List.cons.injEq, PV.int.injEq, PV.bool.injEq, PV.str.injEq, and_true, true_and])
    | rfl
    | (refine Bool.eq_iff_iff.2 ?_; simp only [decide_eq_true_eq, Bool.and_eq_true, Bool.or_eq_true, Bool.not_eq_true', decide_eq_false_iff_not, Bool.false_eq_true, beq_iff_eq, bne_iff_ne, ne_eq, false_iff, iff_false, true_iff, iff_true]; omega)
    | omega)
  all_goals first
    | exact ret_gen _ _ _ rfl rfl rfl ⟨_, ⟨_, _⟩, rfl, rfl, ⟨by omega, by omega⟩, he⟩
    | skip
set_option maxRecDepth 100000 in
set_option maxHeartbeats 16000000 in
/-- spec.l27Line, roughly -/
theorem k_l27LineW (k : Nat) (e : Rec) (hk : k ≤ 100) (he : RecIn e) : Okw Try.prog 48 [.int .i64 k, e.pv] fun d H => ∃ t : List UInt8, d = .p (.str t) ∧ H = [] ∧ t.length ≤ 3000 := by
  unfold RecIn at he
  refine (k_l27Line k e (by omega) (by omega) (by omega)).mono fun d H hh => ?_
  obtain ⟨rfl, rfl⟩ := hh
  have := lineR_len (k := k) (e := e) (by omega)
  exact ⟨_, rfl, rfl, by omega⟩
set_option maxRecDepth 100000 in
set_option maxHeartbeats 16000000 in
/-- spec.DrawRecoverLog -/
theorem k_DrawRecoverLog (code : List UInt8) (hc : code.length ≤ 65536) : Okw Try.prog 40 [codeP code] fun d H => ∃ t : List UInt8, d = .p (.str t) ∧ H = [] ∧ t.length ≤ 100000 := by
  refine ok_D hmix c_spec_DrawRecoverLog (by simp) ?_
  have hk := fun (a s : Int) (h : 0 ≤ a ∧ a ≤ 900000) => k_log code a s hc h
  have hr := fun (a s : Int) (h : 0 ≤ a ∧ a ≤ 1000000) => k_logRecord code a s hc h
  have hs := fun (a s : Int) (t : List UInt8) (h : 0 ≤ a ∧ a ≤ 1099511627000 ∧ t.length ≤ 1000000) => k_spoilt code a s t [35, 64, 10, 48, 49] hc ⟨h.1, h.2.1⟩ h.2.2 (by simp)
  simp only [envOf, envFrom, go_sem, reduceIte, Nat.reduceEqDiff, Nat.reduceAdd, Nat.reduceLeDiff]
  repeat' (first
    | (simp only [go_sem, Nat.lt_add_one, reduceIte, Nat.reduceEqDiff, Nat.reduceAdd, Nat.reduceLeDiff, Bool.false_eq_true])
    | (simp (disch := omega) only [w64, nadd1, Nat.min_self])
    | (refine Rm_need (by first | exact True.intro | omega | (simp; omega)) ?_)
    | (unfold codeP)
    | (refine Rm_mc rfl rfl (hk _ _ (by omega)) (fun r H2 hh => ?_); obtain ⟨x, y, z, a2, s2, rfl, hl, hn0, hn1, g3, g4, rfl⟩ := hh)
    | (refine Rm_mc rfl rfl (hs _ _ _ (by simp; omega)) (fun r H2 hh => ?_); obtain ⟨t, a3, s3, rfl, ht, g5, g6, rfl⟩ := hh; simp only [List.length_append] at ht)
    | (refine Rm_mc rfl rfl (hr _ _ (by omega)) (fun r H2 hh => ?_); obtain ⟨⟨e1, e2⟩, a4, s4, rfl, he, g7, g8, rfl⟩ := hh; simp only [rec_pv])
    | (refine Rm_pick hc rfl (by omega) (by first | omega | (simp; omega)) (fun r a1 s1 q2 q3 q4 => ?_))
    | (refine Rm_one hc rfl (by omega) (by first | omega | (simp; omega)) (fun r a1 s1 q3 q4 => ?_))
    | (refine Rm_of 1000 hc rfl rfl rfl (by omega) (by omega) (by first | decide | omega) (by decide) (fun r a1 s1 q1 q2 q3 q4 => ?_); clear q2)
    | (refine Rm_among (-1000000000000) 1000000000000 hc rfl rfl rfl (by omega) (by omega) (by first | decide | (simp; omega)) (by decide) (fun r a1 s1 q1 q2 q5 q3 q4 => ?_); clear q5)
    | (simp only [List.length_append])
    | (rw [bytes_zero])
    | (refine Rm_o (k_l27LineW _ ⟨_, _⟩ (by omega) he) rfl (fun r H2 hh => ?_); obtain ⟨u, rfl, rfl, hu⟩ := hh)
    | (refine Rm_gi (by first | omega | (simp; omega)) ?_)
    | (refine Rm_gb (by first | omega | (simp; omega)) ?_)
    | (refine Rm_ga (by first | omega | (simp; omega)) _ rfl (Nat.le_of_ble_eq_true rfl) ?_)
    | (refine Rm_gm (by first | omega | (simp; omega)) _ rfl ?_)
    | (refine Rm_puti (by first | omega | (simp; omega)) rfl ?_)
    | (refine Dm_draw [] (by simp) ?_)
    | (refine Tm_both ?_ ?_)
    | (refine Tm_fin (by simp only [hideOK, newsE]; simp []) ?_)
    | (refine Cm_split (fun h => ?_) (fun h => ?_) <;> (try (simp only [beq_iff_eq, beq_eq_false_iff_ne, ne_eq] at h)) <;> (try omega))
    | (refine Gm_split (fun h => ?_) (fun h => ?_) <;> (try simp only [ne_eq, Bool.not_eq_true, Bool.not_eq_false] at h) <;> (try rw [h]) <;> (try (simp only [decide_eq_true_eq, decide_eq_false_iff_not, bne_iff_ne, beq_iff_eq, bne_eq_false_iff_eq, beq_eq_false_iff_ne, Bool.not_eq_true, Bool.not_eq_true', Bool.not_eq_false, Bool.not_eq_false', ne_eq, Bool.and_eq_true, Bool.or_eq_true, true_eq_decide_iff, false_eq_decide_iff] at h)) <;> (try omega))
    | (refine Sm_split (fun h => ?_) (fun h => ?_) <;> (try (simp only [decide_eq_true_eq, decide_eq_false_iff_not, bne_iff_ne, beq_iff_eq, bne_eq_false_iff_eq, beq_eq_false_iff_ne, Bool.not_eq_true, Bool.not_eq_true', Bool.not_eq_false, Bool.not_eq_false', ne_eq, Bool.and_eq_true, Bool.or_eq_true, true_eq_decide_iff, false_eq_decide_iff] at h)) <;> (try omega))
    | (exact ret_p rfl ⟨rfl, rfl⟩)
    | (refine ret_okv (by first | trivial | simp only [go_sem, detD, detDs, detP, and_self, and_true]) ?_)
    | (exact ret_gen _ _ _ rfl rfl rfl ⟨rfl, rfl⟩)
    | (simp only [Option.some.injEq, DV.tup.injEq, DV.p.injEq, List.cons.injEq, PV.int.injEq, PV.bool.injEq, PV.str.injEq, and_true, true_and])
    | rfl
    | (refine Bool.eq_iff_iff.2 ?_; simp only [decide_eq_true_eq, Bool.and_eq_true, Bool.or_eq_true, Bool.not_eq_true', decide_eq_false_iff_not, Bool.false_eq_true, beq_iff_eq, bne_iff_ne, ne_eq, false_iff, iff_false, true_iff, iff_true]; omega)
    | omega)
  all_goals first
    | exact ret_gen _ _ _ rfl rfl rfl ⟨_, rfl, rfl, by (first | omega | (simp; omega))⟩
    | skip
set_option maxRecDepth 100000 in
set_option maxHeartbeats 16000000 in
/-- spec.DrawCrashLog -/
theorem k_DrawCrashLog (code : List UInt8) (hc : code.length ≤ 65536) : Okw Try.prog 42 [codeP code] fun d H => ∃ (x y : List UInt8) (z k : Int) (b : Bool), d = .tup [.p (.agg [.str x, .str y, .int .i64 z]), .p (.int .i64 k), .p (.bool b)] ∧ H = [] ∧ x.length + y.length ≤ 100000 ∧ 0 ≤ z ∧ z ≤ 61 ∧ W64 k := by
  refine ok_D hmix c_spec_DrawCrashLog (by simp) ?_
  have hk := fun (a s : Int) (h : 0 ≤ a ∧ a ≤ 800000) => k_anyLog code a s hc h
  simp only [envOf, envFrom, go_sem, reduceIte, Nat.reduceEqDiff, Nat.reduceAdd, Nat.reduceLeDiff]
  repeat' (first
    | (simp only [go_sem, reduceIte, Nat.reduceEqDiff, Nat.reduceAdd, Nat.reduceSub, Nat.reduceLeDiff, Bool.false_eq_true])
    | (simp (disch := omega) only [w64])
    | (refine Rm_need (by first | exact True.intro | omega | (simp; omega)) ?_)
    | (unfold codeP)
    | (refine Rm_mc rfl rfl (hk _ _ (by omega)) (fun r H2 hh => ?_); obtain ⟨x, y, z, a2, s2, rfl, hl, hn0, hn1, g3, g4, rfl⟩ := hh)
    | (refine Rm_pick hc rfl (by omega) (by first | omega | (simp; omega)) (fun r a1 s1 q2 q3 q4 => ?_))
    | (refine Rm_one hc rfl (by omega) (by first | omega | (simp; omega)) (fun r a1 s1 q3 q4 => ?_))
    | (refine Rm_of 1000 hc rfl rfl rfl (by omega) (by omega) (by first | decide | omega) (by decide) (fun r a1 s1 q1 q2 q3 q4 => ?_); clear q2)
    | (refine Rm_among (-1000000000000) 1000000000000 hc rfl rfl rfl (by omega) (by omega) (by first | decide | (simp; omega)) (by decide) (fun r a1 s1 q1 q2 q5 q3 q4 => ?_); clear q5)
    | (simp only [List.length_append])
    | (refine Rm_gi (by first | omega | (simp; omega)) ?_)
    | (refine Rm_gb (by first | omega | (simp; omega)) ?_)
    | (refine Rm_ga (by first | omega | (simp; omega)) _ rfl (Nat.le_of_ble_eq_true rfl) ?_)
    | (refine Rm_gm (by first | omega | (simp; omega)) _ rfl ?_)
    | (refine Rm_puti (by first | omega | (simp; omega)) rfl ?_)
    | (refine Dm_draw [] (by simp) ?_)
    | (refine Tm_both ?_ ?_)
    | (refine Tm_fin (by simp only [hideOK, newsE]; simp []) ?_)
    | (refine Cm_split (fun h => ?_) (fun h => ?_) <;> (try (simp only [decide_eq_true_eq, decide_eq_false_iff_not, bne_iff_ne, beq_iff_eq, bne_eq_false_iff_eq, beq_eq_false_iff_ne, Bool.not_eq_true, Bool.not_eq_true', Bool.not_eq_false, Bool.not_eq_false', ne_eq, Bool.and_eq_true, Bool.or_eq_true, true_eq_decide_iff, false_eq_decide_iff] at h)) <;> (try omega))
    | (refine Gm_split (fun h => ?_) (fun h => ?_) <;> (try simp only [ne_eq, Bool.not_eq_true, Bool.not_eq_false] at h) <;> (try rw [h]) <;> (try (simp only [decide_eq_true_eq, decide_eq_false_iff_not, bne_iff_ne, beq_iff_eq, bne_eq_false_iff_eq, beq_eq_false_iff_ne, Bool.not_eq_true, Bool.not_eq_true', Bool.not_eq_false, Bool.not_eq_false', ne_eq, Bool.and_eq_true, Bool.or_eq_true, true_eq_decide_iff, false_eq_decide_iff] at h)) <;> (try omega))
    | (refine Sm_split (fun h => ?_) (fun h => ?_) <;> (try (simp only [decide_eq_true_eq, decide_eq_false_iff_not, bne_iff_ne, beq_iff_eq, bne_eq_false_iff_eq, beq_eq_false_iff_ne, Bool.not_eq_true, Bool.not_eq_true', Bool.not_eq_false, Bool.not_eq_false', ne_eq, Bool.and_eq_true, Bool.or_eq_true, true_eq_decide_iff, false_eq_decide_iff] at h)) <;> (try omega))
    | (exact ret_p rfl ⟨rfl, rfl⟩)
    | (refine ret_okv (by first | trivial | simp only [go_sem, detD, detDs, detP, and_self, and_true]) ?_)
    | (exact ret_gen _ _ _ rfl rfl rfl ⟨rfl, rfl⟩)
    | (simp only [Option.some.injEq, DV.tup.injEq, DV.p.injEq, List.cons.injEq, PV.int.injEq, PV.bool.injEq, PV.str.injEq, and_true, true_and])
    | rfl
    | (refine Bool.eq_iff_iff.2 ?_; simp only [decide_eq_true_eq, Bool.and_eq_true, Bool.or_eq_true, Bool.not_eq_true', decide_eq_false_iff_not, Bool.false_eq_true, beq_iff_eq, bne_iff_ne, ne_eq, false_iff, iff_false, true_iff, iff_true]; omega)
    | omega)
  all_goals first
    | exact ret_gen _ _ _ rfl rfl rfl ⟨_, _, _, _, _, rfl, rfl, by omega, by omega, by omega, ⟨by omega, by omega⟩⟩
    | skip
set_option maxRecDepth 100000 in
set_option maxHeartbeats 16000000 in
/-- spec.DrawAppendRecord -/
theorem k_DrawAppendRecord (code : List UInt8) (hc : code.length ≤ 65536) : Okw Try.prog 41 [codeP code] fun d H => ∃ (x y : List UInt8) (z : Int) (e : Rec), d = .tup [.p (.agg [.str x, .str y, .int .i64 z]), .p e.pv] ∧ H = [] ∧ x.length + y.length ≤ 100000 ∧ 0 ≤ z ∧ z ≤ 61 ∧ RecIn e := by
  refine ok_D hmix c_spec_DrawAppendRecord (by simp) ?_
  have hk := fun (a s : Int) (h : 0 ≤ a ∧ a ≤ 800000) => k_anyLog code a s hc h
  have hr := fun (a s : Int) (h : 0 ≤ a ∧ a ≤ 1000000) => k_logRecord code a s hc h
  simp only [envOf, envFrom, go_sem, reduceIte, Nat.reduceEqDiff, Nat.reduceAdd, Nat.reduceLeDiff]
  repeat' (first
    | (simp only [go_sem, reduceIte, Nat.reduceEqDiff, Nat.reduceAdd, Nat.reduceSub, Nat.reduceLeDiff])
    | (simp (disch := omega) only [w64])
    | (refine Rm_need (by first | exact True.intro | omega | (simp; omega)) ?_)
    | (unfold codeP)
    | (refine Rm_mc rfl rfl (hk _ _ (by omega)) (fun r H2 hh => ?_); obtain ⟨x, y, z, a2, s2, rfl, hl, hn0, hn1, g3, g4, rfl⟩ := hh)
    | (refine Rm_mc rfl rfl (hr _ _ (by omega)) (fun r H2 hh => ?_); obtain ⟨⟨e1, e2⟩, a4, s4, rfl, he, g7, g8, rfl⟩ := hh; simp only [rec_pv])
    | (refine Rm_pick hc rfl (by omega) (by first | omega | (simp; omega)) (fun r a1 s1 q2 q3 q4 => ?_))
    | (refine Rm_one hc rfl (by omega) (by first | omega | (simp; omega)) (fun r a1 s1 q3 q4 => ?_))
    | (refine Rm_of 1000 hc rfl rfl rfl (by omega) (by omega) (by first | decide | omega) (by decide) (fun r a1 s1 q1 q2 q3 q4 => ?_); clear q2)
    | (refine Rm_among (-1000000000000) 1000000000000 hc rfl rfl rfl (by omega) (by omega) (by first | decide | (simp; omega)) (by decide) (fun r a1 s1 q1 q2 q5 q3 q4 => ?_); clear q5)
    | (simp only [List.length_append])
    | (refine Rm_gi (by first | omega | (simp; omega)) ?_)
    | (refine Rm_gb (by first | omega | (simp; omega)) ?_)
    | (refine Rm_ga (by first | omega | (simp; omega)) _ rfl (Nat.le_of_ble_eq_true rfl) ?_)
    | (refine Rm_gm (by first | omega | (simp; omega)) _ rfl ?_)
    | (refine Rm_puti (by first | omega | (simp; omega)) rfl ?_)
    | (refine Dm_draw [] (by simp) ?_)
    | (refine Tm_both ?_ ?_)
    | (refine Tm_fin (by simp only [hideOK, newsE]; simp []) ?_)
    | (refine Cm_split (fun h => ?_) (fun h => ?_) <;> (try (simp only [decide_eq_true_eq, decide_eq_false_iff_not, bne_iff_ne, beq_iff_eq, bne_eq_false_iff_eq, beq_eq_false_iff_ne, Bool.not_eq_true, Bool.not_eq_true', Bool.not_eq_false, Bool.not_eq_false', ne_eq, Bool.and_eq_true, Bool.or_eq_true, true_eq_decide_iff, false_eq_decide_iff] at h)) <;> (try omega))
    | (refine Gm_split (fun h => ?_) (fun h => ?_) <;> (try simp only [ne_eq, Bool.not_eq_true, Bool.not_eq_false] at h) <;> (try rw [h]) <;> (try (simp only [decide_eq_true_eq, decide_eq_false_iff_not, bne_iff_ne, beq_iff_eq, bne_eq_false_iff_eq, beq_eq_false_iff_ne, Bool.not_eq_true, Bool.not_eq_true', Bool.not_eq_false, Bool.not_eq_false', ne_eq, Bool.and_eq_true, Bool.or_eq_true, true_eq_decide_iff, false_eq_decide_iff] at h)) <;> (try omega))
    | (refine Sm_split (fun h => ?_) (fun h => ?_) <;> (try (simp only [decide_eq_true_eq, decide_eq_false_iff_not, bne_iff_ne, beq_iff_eq, bne_eq_false_iff_eq, beq_eq_false_iff_ne, Bool.not_eq_true, Bool.not_eq_true', Bool.not_eq_false, Bool.not_eq_false', ne_eq, Bool.and_eq_true, Bool.or_eq_true, true_eq_decide_iff, false_eq_decide_iff] at h)) <;> (try omega))
    | (exact ret_p rfl ⟨rfl, rfl⟩)
    | (refine ret_okv (by first | trivial | simp only [go_sem, detD, detDs, detP, and_self, and_true]) ?_)
    | (exact ret_gen _ _ _ rfl rfl rfl ⟨rfl, rfl⟩)
    | (simp only [Option.some.injEq, DV.tup.injEq, DV.p.injEq, List.cons.injEq, PV.int.injEq, PV.bool.injEq, PV.str.injEq, and_true, true_and])
    | rfl
    | (refine Bool.eq_iff_iff.2 ?_; simp only [decide_eq_true_eq, Bool.and_eq_true, Bool.or_eq_true, Bool.not_eq_true', decide_eq_false_iff_not, Bool.false_eq_true, beq_iff_eq, bne_iff_ne, ne_eq, false_iff, iff_false, true_iff, iff_true]; omega)
    | omega)
  all_goals try exact ret_gen _ _ _ rfl rfl rfl ⟨_, _, _, ⟨_, _⟩, rfl, rfl, by omega, by omega, by omega, he⟩
  refine Dm_loop [2, 3, 4, 5, 6] (fun m ds H' => ∃ (x y : List UInt8) (z a' s' : Int), m ≤ 60 ∧ x.length + y.length + 400 * m ≤ 30000 ∧ 0 ≤ z ∧ z ≤ 60 ∧ 0 ≤ a' ∧ a' ≤ 1000 ∧
    ds = [.ptr 0 0 0, .ptr 1 0 0, .ptr 2 0 0, .ptr 3 0 0, .p (.int .i64 m)] ∧ H' = [.box 33 [.p (.str []), .p (.str []), .p (.int .i64 0)], .box 26 [.p (.str []), .p (.str [])], curO code a' s', .box 33 [.p (.str x), .p (.str y), .p (.int .i64 z)]]) (59 + r)
    ⟨[], [], 0, a1, s1, by omega, by simp; omega, by omega, by omega, by omega, by omega, by rw [show ((59 : Int) + (r : Int)) = ((59 + r : Nat) : Int) from by omega]; rfl, rfl⟩ ?_
  rintro m ds H' ⟨x, y, z, a', s', hm, hl, hn0, hn1, g1, g2, rfl, rfl⟩ -
  have hx : RecIn ⟨[120], []⟩ := ⟨by simp, by simp⟩
  repeat' (first
    | (simp only [go_sem, reduceIte, Nat.reduceEqDiff, Nat.reduceAdd, Nat.reduceSub, Nat.reduceLeDiff])
    | (simp (disch := omega) only [w64, nsub1])
    | (refine Rm_need (by first | exact True.intro | omega | (simp; omega)) ?_)
    | (refine Rm_o (k_sAppendW ⟨_, _, _⟩ ⟨_, _⟩ (by simp only []; omega) (by simp only []; omega) hx) rfl (fun r H2 hh => ?_); obtain ⟨x2, y2, z2, b2, rfl, rfl, i1, i2, i3⟩ := hh; simp only [] at i1)
    | (refine Rm_mc rfl rfl (hr _ _ (by omega)) (fun r H2 hh => ?_); obtain ⟨⟨e1, e2⟩, a4, s4, rfl, he, g7, g8, rfl⟩ := hh; simp only [rec_pv])
    | (refine Rm_gi (by first | omega | (simp; omega)) ?_)
    | (refine Rm_gb (by first | omega | (simp; omega)) ?_)
    | (refine Rm_ga (by first | omega | (simp; omega)) _ rfl (Nat.le_of_ble_eq_true rfl) ?_)
    | (refine Rm_gm (by first | omega | (simp; omega)) _ rfl ?_)
    | (refine Rm_puti (by first | omega | (simp; omega)) rfl ?_)
    | (refine Dm_draw [] (by simp) ?_)
    | (refine Tm_both ?_ ?_)
    | (refine Tm_fin (by simp only [hideOK, newsE]; simp []) ?_)
    | (refine Cm_split (fun h => ?_) (fun h => ?_) <;> (try (simp only [decide_eq_true_eq, decide_eq_false_iff_not] at h)) <;> (try omega))
    | (refine Gm_split (fun h => ?_) (fun h => ?_) <;> (try simp only [ne_eq, Bool.not_eq_true, Bool.not_eq_false] at h) <;> (try rw [h]) <;> (try (simp only [decide_eq_true_eq, decide_eq_false_iff_not, bne_iff_ne, beq_iff_eq, bne_eq_false_iff_eq, beq_eq_false_iff_ne, Bool.not_eq_true, Bool.not_eq_true', Bool.not_eq_false, Bool.not_eq_false', ne_eq, Bool.and_eq_true, Bool.or_eq_true, true_eq_decide_iff, false_eq_decide_iff] at h)) <;> (try omega))
    | (refine Sm_split (fun h => ?_) (fun h => ?_) <;> (try (simp only [decide_eq_true_eq, decide_eq_false_iff_not, bne_iff_ne, beq_iff_eq, bne_eq_false_iff_eq, beq_eq_false_iff_ne, Bool.not_eq_true, Bool.not_eq_true', Bool.not_eq_false, Bool.not_eq_false', ne_eq, Bool.and_eq_true, Bool.or_eq_true, true_eq_decide_iff, false_eq_decide_iff] at h)) <;> (try omega))
    | (exact ret_p rfl ⟨rfl, rfl⟩)
    | (refine ret_okv (by first | trivial | simp only [go_sem, detD, detDs, detP, and_self, and_true]) ?_)
    | (exact ret_gen _ _ _ rfl rfl rfl ⟨rfl, rfl⟩)
    | (simp only [Option.some.injEq, DV.tup.injEq, DV.p.injEq, List.cons.injEq, PV.int.injEq, PV.bool.injEq, PV.str.injEq, and_true, true_and])
    | rfl
    | (refine Bool.eq_iff_iff.2 ?_; simp only [decide_eq_true_eq, Bool.and_eq_true, Bool.or_eq_true, Bool.not_eq_true', decide_eq_false_iff_not, Bool.false_eq_true, beq_iff_eq, bne_iff_ne, ne_eq, false_iff, iff_false, true_iff, iff_true]; omega)
    | omega)
  all_goals first
    | exact Xm_inv_n (m - 1) (by omega) ⟨x2, y2, z2, _, _, by omega, by omega, by omega, by omega, by omega, by omega, rfl, rfl⟩
    | exact ret_gen _ _ _ rfl rfl rfl ⟨_, _, _, ⟨_, _⟩, rfl, rfl, by omega, by omega, by omega, he⟩
    | skip
end Go.Proofs.Ytkjfhbbjjneilaa

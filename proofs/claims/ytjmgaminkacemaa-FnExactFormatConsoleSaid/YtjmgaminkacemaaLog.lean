import Derived.Test.YtjmgaminkacemaaRecs
namespace Go.Proofs.Ytjmgaminkacemaa
open Go.Dv Go.Dv.EvL
attribute [local irreducible] Ok Rm Dm Om Sm Xm Cm Gm Hm Tm

/-! ### what is read back -/
def noRec : Rec := ⟨[], []⟩
def headB (b : UInt8) (s : List UInt8) : List UInt8 := (splitB b s).getD 0 default
def readR (s : List UInt8) (k : Nat) : Rec × Bool :=
  let ahead := dec k ++ [32]
  let text := headB 35 s
  if (text.length : Int) < (ahead.length : Int) ∨ ¬ cutL text 0 ahead.length = ahead then (noRec, false) else
    let rest := cutL text ahead.length text.length
    let ask := headB 64 rest
    if (ask.length : Int) = (rest.length : Int) then (noRec, false) else
      let e : Rec := ⟨ask, cutL rest (ask.length + 1) rest.length⟩
      (e, recB e && decide (lineR k e = s ++ [10]))
theorem head_glue {p : List UInt8} {X : List (List UInt8)} (h : X ≠ []) : (glue p X).getD 0 default = p ++ X.getD 0 default := by
  cases X with
  | nil => exact absurd rfl h
  | cons x X => rfl
theorem headB_eq (b : UInt8) : ∀ s, headB b s = s.takeWhile (· ≠ b)
  | [] => rfl
  | c :: s => by
    unfold headB
    rw [splitB]
    split
    · rename_i h
      simp [h]
    · rename_i h
      rw [head_glue (split_ne b s), List.takeWhile_cons, if_pos (by simpa using h)]
      show [c] ++ headB b s = _
      rw [headB_eq b s]
      rfl
theorem headB_len (b : UInt8) (s : List UInt8) : (headB b s).length ≤ s.length := by
  rw [headB_eq]
  exact (List.takeWhile_sublist _).length_le
theorem cut_len {s : List UInt8} {a b : Nat} : (cutL s a b).length ≤ s.length := by simp [cutL]; omega

set_option maxRecDepth 100000 in
set_option maxHeartbeats 16000000 in
/-- spec.l27Read -/
theorem k_l27Read (s : List UInt8) (k : Nat) (hl : s.length ≤ 8589934592) (hk : k ≤ 1000) : Okv Try.prog 71 [.str s, .int .i64 k] (.tup [.p (readR s k).1.pv, .p (.bool (readR s k).2)]) := by
  refine ok_D hmix c_spec_l27Read (by simp) ?_
  have h0 := dec_len64 (n := k) (by omega)
  have h1 := headB_len 35 s
  have h2 := (split_len 35 s).2
  have h35 : (splitB 35 s).getD 0 default = headB 35 s := rfl
  generalize hx : readR s k = x
  unfold readR at hx
  simp only [] at hx
  generalize headB 35 s = t at *
  generalize hA : dec k ++ [32] = A at *
  have hAl : A.length ≤ 20 := by rw [← hA]; simp; omega
  have h3 := cut_len (s := t) (a := A.length) (b := t.length)
  generalize hR : cutL t A.length t.length = R at *
  have h4 := headB_len 64 R
  have h5 := (split_len 64 R).2
  have h64 : (splitB 64 R).getD 0 default = headB 64 R := rfl
  have hs64 := k_l1Split R 64 (by omega)
  generalize headB 64 R = a at *
  have h6 := cut_len (s := R) (a := a.length + 1) (b := R.length)
  have hlen : A.length ≤ t.length → a.length ≠ R.length → a.length + 1 ≤ R.length := fun _ h => by omega
  have hg := k_l27Good ⟨a, cutL R (a.length + 1) R.length⟩ (by simp only []; omega) (by simp only []; omega)
  have hli := k_l27Line k ⟨a, cutL R (a.length + 1) R.length⟩ (by omega) (by simp only []; omega) (by simp only []; omega)
  rw [rec_pv] at hg hli
  simp only [envOf, envFrom, go_sem, reduceIte, Nat.reduceEqDiff]
  repeat' (first
    | (simp only [go_sem, reduceIte, Nat.reduceEqDiff, Nat.reduceBEq, Nat.reduceAdd, Nat.reduceSub, Nat.reduceLeDiff])
    | (simp (disch := omega) only [w64, nadd1, Int.toNat_zero])
    | (refine Rm_need (by first | exact True.intro | omega | (simp; omega)) ?_)
    | (refine Rm_w rfl (k_l1NumN k (by omega)) (by trivial) ?_)
    | (refine Rm_w ?_ (k_l1NumN k (by omega)) (by trivial) ?_; · (simp [viewOfs, viewOf, List.take_of_length_le, cutL]; done))
    | (rw [hA])
    | (refine Rm_o (k_l1Split s 35 (by omega)) rfl (fun r H2 hh => ?_); obtain ⟨rfl, rfl⟩ := hh)
    | (rw [h35])
    | (rw [hR])
    | (refine Rm_o hs64 rfl (fun r H2 hh => ?_); obtain ⟨rfl, rfl⟩ := hh)
    | (rw [h64])
    | (refine Rm_w rfl (hg) (by trivial) ?_)
    | (refine Rm_w ?_ (hg) (by trivial) ?_; · (simp [viewOfs, viewOf, List.take_of_length_le, cutL]; done))
    | (refine Rm_w rfl (hli) (by trivial) ?_)
    | (refine Rm_w ?_ (hli) (by trivial) ?_; · (simp [viewOfs, viewOf, List.take_of_length_le, cutL]; done))
    | (refine Rm_gi (by first | omega | (simp; omega)) ?_)
    | (refine Rm_gb (by first | omega | (simp; omega)) ?_)
    | (refine Rm_ga (by first | omega | (simp; omega)) _ rfl (Nat.le_of_ble_eq_true rfl) ?_)
    | (refine Rm_gm (by first | omega | (simp; omega)) _ rfl ?_)
    | (refine Rm_part _ _ rfl rfl ?_)
    | (refine Rm_puti (by first | omega | (simp; omega)) rfl ?_)
    | (refine Dm_draw [] (by simp) ?_)
    | (refine Tm_both ?_ ?_)
    | (refine Tm_fin (by simp only [hideOK, newsE]; simp []) ?_)
    | (refine Cm_split (fun h => ?_) (fun h => ?_) <;> (try (simp only [beq_iff_eq, beq_eq_false_iff_ne, Bool.not_eq_true', Bool.not_eq_false', ne_eq] at h)) <;> (try omega))
    | (refine Gm_split (fun h => ?_) (fun h => ?_) <;> (try simp only [ne_eq, Bool.not_eq_true] at h) <;> (try rw [h]) <;> (try (simp only [decide_eq_true_eq, decide_eq_false_iff_not, bne_iff_ne, beq_iff_eq, bne_eq_false_iff_eq, beq_eq_false_iff_ne, Bool.not_eq_true, Bool.not_eq_true', Bool.not_eq_false, Bool.not_eq_false', ne_eq, Bool.and_eq_true, Bool.or_eq_true, true_eq_decide_iff, false_eq_decide_iff] at h)) <;> (try omega))
    | (refine Sm_split (fun h => ?_) (fun h => ?_) <;> (try (simp only [decide_eq_true_eq, decide_eq_false_iff_not] at h)) <;> (try omega))
    | (exact ret_p rfl ⟨rfl, rfl⟩)
    | (refine ret_okv (by first | trivial | simp only [go_sem, detD, detDs, detP, and_self, and_true]) ?_)
    | (exact ret_gen _ _ _ rfl rfl rfl ⟨rfl, rfl⟩)
    | (simp only [Option.some.injEq, DV.tup.injEq, DV.p.injEq, List.cons.injEq, PV.bool.injEq, and_true])
    | rfl
    | (refine Bool.eq_iff_iff.2 ?_; simp only [decide_eq_true_eq, Bool.and_eq_true, Bool.or_eq_true, Bool.not_eq_true', decide_eq_false_iff_not, Bool.false_eq_true, beq_iff_eq, bne_iff_ne, ne_eq, false_iff, iff_false, true_iff, iff_true]; omega)
    | omega)
  all_goals (clear hg hli hs64; grind [Rec.pv, noRec])
set_option maxRecDepth 100000 in
set_option maxHeartbeats 16000000 in
/-- impl.decode -/
theorem k_decode (k : Nat) (s : List UInt8) (hl : s.length ≤ 8589934592) (hk : k ≤ 59) : Okv Try.prog 67 [.int .i64 k, .str s] (.tup [.p (readR s k).1.pv, .p (.bool (readR s k).2)]) := by
  refine ok_D hmix c_impl_decode (by simp) ?_
  have h0 := dec_len64 (n := k) (by omega)
  have h1 := headB_len 35 s
  have h2 := (split_len 35 s).2
  have h35 : (splitB 35 s).getD 0 default = headB 35 s := rfl
  generalize hx : readR s k = x
  unfold readR at hx
  simp only [] at hx
  generalize headB 35 s = t at *
  generalize hA : dec k ++ [32] = A at *
  have hAl : A.length ≤ 20 := by rw [← hA]; simp; omega
  have h3 := cut_len (s := t) (a := A.length) (b := t.length)
  generalize hR : cutL t A.length t.length = R at *
  have h4 := headB_len 64 R
  have h5 := (split_len 64 R).2
  have h64 : (splitB 64 R).getD 0 default = headB 64 R := rfl
  have hs64 := k_split R 64 (by omega)
  generalize headB 64 R = a at *
  have h6 := cut_len (s := R) (a := a.length + 1) (b := R.length)
  have hlen : A.length ≤ t.length → a.length ≠ R.length → a.length + 1 ≤ R.length := fun _ h => by omega
  have hE := k_iEnc k ⟨a, cutL R (a.length + 1) R.length⟩ (by simp only []; omega) (by simp only []; omega)
  rw [rec_pv] at hE
  cases hr : recB ⟨a, cutL R (a.length + 1) R.length⟩
  · rw [if_neg (by rw [hr]; simp), decide_eq_false (by rw [hr]; simp)] at hE
    rw [hr] at hx
    simp only [envOf, envFrom, go_sem, reduceIte, Nat.reduceEqDiff]
    repeat' (first
      | (simp only [go_sem, reduceIte, Nat.reduceEqDiff, Nat.reduceBEq, Nat.reduceAdd, Nat.reduceLeDiff])
      | (simp (disch := omega) only [w64, nadd1, Int.toNat_zero])
      | (refine Rm_need (by first | exact True.intro | omega | (simp; omega)) ?_)
      | (refine Rm_w rfl (k_textN k (by omega)) (by trivial) ?_)
      | (refine Rm_w ?_ (k_textN k (by omega)) (by trivial) ?_; · (simp [viewOfs, viewOf, List.take_of_length_le, cutL]; done))
      | (rw [hA])
      | (refine Rm_o (k_split s 35 (by omega)) rfl (fun r H2 hh => ?_); obtain ⟨rfl, rfl⟩ := hh)
      | (rw [h35])
      | (rw [hR])
      | (refine Rm_o hs64 rfl (fun r H2 hh => ?_); obtain ⟨rfl, rfl⟩ := hh)
      | (rw [h64])
      | (refine Rm_w rfl (hE) (by trivial) ?_)
      | (refine Rm_w ?_ (hE) (by trivial) ?_; · (simp [viewOfs, viewOf, List.take_of_length_le, cutL]; done))
      | (refine Rm_gi (by first | omega | (simp; omega)) ?_)
      | (refine Rm_gb (by first | omega | (simp; omega)) ?_)
      | (refine Rm_ga (by first | omega | (simp; omega)) _ rfl (Nat.le_of_ble_eq_true rfl) ?_)
      | (refine Rm_gm (by first | omega | (simp; omega)) _ rfl ?_)
      | (refine Rm_part _ _ rfl rfl ?_)
      | (refine Rm_puti (by first | omega | (simp; omega)) rfl ?_)
      | (refine Dm_draw [] (by simp) ?_)
      | (refine Tm_both ?_ ?_)
      | (refine Tm_fin (by simp only [hideOK, newsE]; simp []) ?_)
      | (refine Cm_split (fun h => ?_) (fun h => ?_) <;> (try (simp only [beq_iff_eq, beq_eq_false_iff_ne, Bool.not_eq_true', Bool.not_eq_false', ne_eq] at h)) <;> (try omega))
      | (refine Gm_split (fun h => ?_) (fun h => ?_) <;> (try simp only [ne_eq, Bool.not_eq_true, Bool.not_eq_false] at h) <;> (try rw [h]) <;> (try (simp only [decide_eq_true_eq, decide_eq_false_iff_not, bne_iff_ne, beq_iff_eq, bne_eq_false_iff_eq, beq_eq_false_iff_ne, Bool.not_eq_true, Bool.not_eq_true', Bool.not_eq_false, Bool.not_eq_false', ne_eq, Bool.and_eq_true, Bool.or_eq_true, true_eq_decide_iff, false_eq_decide_iff] at h)) <;> (try omega))
      | (refine Sm_split (fun h => ?_) (fun h => ?_) <;> (try (simp only [decide_eq_true_eq, decide_eq_false_iff_not] at h)) <;> (try omega))
      | (exact ret_p rfl ⟨rfl, rfl⟩)
      | (refine ret_okv (by first | trivial | simp only [go_sem, detD, detDs, detP, and_self, and_true]) ?_)
      | (exact ret_gen _ _ _ rfl rfl rfl ⟨rfl, rfl⟩)
      | (simp only [Option.some.injEq, DV.tup.injEq, DV.p.injEq, List.cons.injEq, PV.bool.injEq, and_true])
      | rfl
      | (refine Bool.eq_iff_iff.2 ?_; simp only [decide_eq_true_eq, Bool.and_eq_true, Bool.or_eq_true, Bool.not_eq_true', decide_eq_false_iff_not, Bool.false_eq_true, beq_iff_eq, bne_iff_ne, ne_eq, false_iff, iff_false, true_iff, iff_true]; omega)
      | omega)
    all_goals (clear hE hs64; grind [Rec.pv, noRec])
  · rw [if_pos ⟨by omega, by omega, hr⟩, decide_eq_true ⟨by omega, by omega, hr⟩, Int.toNat_natCast] at hE
    rw [hr] at hx
    simp only [envOf, envFrom, go_sem, reduceIte, Nat.reduceEqDiff]
    repeat' (first
      | (simp only [go_sem, reduceIte, Nat.reduceEqDiff, Nat.reduceBEq, Nat.reduceAdd, Nat.reduceLeDiff])
      | (simp (disch := omega) only [w64, nadd1, Int.toNat_zero])
      | (refine Rm_need (by first | exact True.intro | omega | (simp; omega)) ?_)
      | (refine Rm_w rfl (k_textN k (by omega)) (by trivial) ?_)
      | (refine Rm_w ?_ (k_textN k (by omega)) (by trivial) ?_; · (simp [viewOfs, viewOf, List.take_of_length_le, cutL]; done))
      | (rw [hA])
      | (refine Rm_o (k_split s 35 (by omega)) rfl (fun r H2 hh => ?_); obtain ⟨rfl, rfl⟩ := hh)
      | (rw [h35])
      | (rw [hR])
      | (refine Rm_o hs64 rfl (fun r H2 hh => ?_); obtain ⟨rfl, rfl⟩ := hh)
      | (rw [h64])
      | (refine Rm_w rfl (hE) (by trivial) ?_)
      | (refine Rm_w ?_ (hE) (by trivial) ?_; · (simp [viewOfs, viewOf, List.take_of_length_le, cutL]; done))
      | (refine Rm_gi (by first | omega | (simp; omega)) ?_)
      | (refine Rm_gb (by first | omega | (simp; omega)) ?_)
      | (refine Rm_ga (by first | omega | (simp; omega)) _ rfl (Nat.le_of_ble_eq_true rfl) ?_)
      | (refine Rm_gm (by first | omega | (simp; omega)) _ rfl ?_)
      | (refine Rm_part _ _ rfl rfl ?_)
      | (refine Rm_puti (by first | omega | (simp; omega)) rfl ?_)
      | (refine Dm_draw [] (by simp) ?_)
      | (refine Tm_both ?_ ?_)
      | (refine Tm_fin (by simp only [hideOK, newsE]; simp []) ?_)
      | (refine Cm_split (fun h => ?_) (fun h => ?_) <;> (try (simp only [beq_iff_eq, beq_eq_false_iff_ne, Bool.not_eq_true', Bool.not_eq_false', ne_eq] at h)) <;> (try omega))
      | (refine Gm_split (fun h => ?_) (fun h => ?_) <;> (try simp only [ne_eq, Bool.not_eq_true, Bool.not_eq_false] at h) <;> (try rw [h]) <;> (try (simp only [decide_eq_true_eq, decide_eq_false_iff_not, bne_iff_ne, beq_iff_eq, bne_eq_false_iff_eq, beq_eq_false_iff_ne, Bool.not_eq_true, Bool.not_eq_true', Bool.not_eq_false, Bool.not_eq_false', ne_eq, Bool.and_eq_true, Bool.or_eq_true, true_eq_decide_iff, false_eq_decide_iff] at h)) <;> (try omega))
      | (refine Sm_split (fun h => ?_) (fun h => ?_) <;> (try (simp only [decide_eq_true_eq, decide_eq_false_iff_not] at h)) <;> (try omega))
      | (exact ret_p rfl ⟨rfl, rfl⟩)
      | (refine ret_okv (by first | trivial | simp only [go_sem, detD, detDs, detP, and_self, and_true]) ?_)
      | (exact ret_gen _ _ _ rfl rfl rfl ⟨rfl, rfl⟩)
      | (simp only [Option.some.injEq, DV.tup.injEq, DV.p.injEq, List.cons.injEq, PV.bool.injEq, and_true])
      | rfl
      | (refine Bool.eq_iff_iff.2 ?_; simp only [decide_eq_true_eq, Bool.and_eq_true, Bool.or_eq_true, Bool.not_eq_true', decide_eq_false_iff_not, Bool.false_eq_true, beq_iff_eq, bne_iff_ne, ne_eq, false_iff, iff_false, true_iff, iff_true]; omega)
      | omega)
    all_goals (clear hE hs64; grind [Rec.pv, noRec])
/-! ### all that is read back -/
/-- the records of a text, and how many bytes they have: from number k on, as long as there are some -/
def openR : Nat → Nat → List UInt8 → List Rec × Nat
  | 0, _, _ => ([], 0)
  | f + 1, k, s => if (10 : UInt8) ∈ s ∧ (readR (headB 10 s) k).2 = true then
      ((readR (headB 10 s) k).1 :: (openR f (k + 1) (s.drop ((headB 10 s).length + 1))).1, (headB 10 s).length + 1 + (openR f (k + 1) (s.drop ((headB 10 s).length + 1))).2)
    else ([], 0)
def openS (s : List UInt8) : List Rec × Nat := openR 60 0 s

theorem cut_end {s : List UInt8} {a : Nat} : cutL s a s.length = s.drop a := List.take_of_length_le (by simp)
theorem headB_lt {b : UInt8} : ∀ {s : List UInt8}, b ∈ s → (headB b s).length < s.length
  | [], h => by simp at h
  | c :: s, h => by
    rw [headB_eq, List.takeWhile_cons]
    split
    · rename_i hc
      have h2 : b ∈ s := by
        rcases List.mem_cons.1 h with e | e
        · simp [e] at hc
        · exact e
      have := headB_lt h2
      rw [headB_eq] at this
      simp only [List.length_cons]
      omega
    · simp
theorem open_stop {m k : Nat} {t : List UInt8} (h : m = 0 ∨ (10 : UInt8) ∉ t ∨ (readR (headB 10 t) k).2 = false) : openR m k t = ([], 0) := by
  cases m with
  | zero => rfl
  | succ m =>
    rw [openR, if_neg]
    rintro ⟨h1, h2⟩
    rcases h with h | h | h
    · omega
    · exact h h1
    · rw [h2] at h; cases h
theorem open_go {m k : Nat} {t L : List UInt8} {e : Rec} (h1 : (10 : UInt8) ∈ t) (hL : headB 10 t = L) (h2 : readR L k = (e, true)) :
    openR (m + 1) k t = (e :: (openR m (k + 1) (t.drop (L.length + 1))).1, L.length + 1 + (openR m (k + 1) (t.drop (L.length + 1))).2) := by
  subst hL
  rw [openR, if_pos ⟨h1, by rw [h2]⟩, h2]
theorem open_next {s : List UInt8} {m a : Nat} {out : List Rec} {e : Rec} {L : List UInt8} {X : List Rec × Nat} (ho : X = (out ++ (openR (m + 1) out.length (s.drop a)).1, a + (openR (m + 1) out.length (s.drop a)).2)) (h1 : (10 : UInt8) ∈ s.drop a) (hL : headB 10 (s.drop a) = L)
    (h2 : readR L out.length = (e, true)) : a + L.length + 1 ≤ s.length ∧ X = ((out ++ [e]) ++ (openR m (out ++ [e]).length (s.drop (a + L.length + 1))).1, a + L.length + 1 + (openR m (out ++ [e]).length (s.drop (a + L.length + 1))).2) := by
  have h3 := headB_lt h1
  rw [hL, List.length_drop] at h3
  refine ⟨by omega, ?_⟩
  rw [ho, open_go h1 hL h2, List.drop_drop, List.length_append]
  simp only [List.append_assoc, List.cons_append, List.nil_append, List.length_cons, List.length_nil]
  rw [show a + (L.length + 1) = a + L.length + 1 from by omega, Nat.zero_add]
  congr 1
  omega
theorem mem10 {t : List UInt8} : (splitB 10 t).length < 2 → (10 : UInt8) ∉ t := fun h hm => by have := split_some hm; omega
theorem mem10' {t : List UInt8} (h : ¬ (splitB 10 t).length < 2) : (10 : UInt8) ∈ t := by
  by_cases hm : (10 : UInt8) ∈ t
  · exact hm
  · rw [split_none hm] at h
    simp at h
theorem rec_app {xs : List Rec} {e : Rec} : xs.map Rec.pv ++ [.agg [.str e.cmd, .str e.reply]] = (xs ++ [e]).map Rec.pv := by simp [Rec.pv]

set_option maxRecDepth 100000 in
set_option maxHeartbeats 16000000 in
/-- spec.l27Open -/
theorem k_l27Open (s : List UInt8) (hl : s.length ≤ 8589934592) : Okw Try.prog 64 [.str s] fun d H => d = .tup [.own 0 0 (openS s).1.length, .p (.int .i64 (openS s).2)] ∧ H = [.arr 94 2 ((openS s).1.map Rec.pv)] := by
  refine ok_D hmix c_spec_l27Open (by simp) ?_
  simp only [envOf, envFrom, go_sem, Nat.lt_add_one, reduceIte, Nat.reduceEqDiff, Nat.reduceAdd, Nat.reduceMul, Nat.reduceLeDiff]
  refine Dm_loop [0, 4, 5] (fun m ds H' => ∃ (out : List Rec) (a : Nat), out.length + m = 60 ∧ a ≤ s.length ∧ openS s = (out ++ (openR m out.length (s.drop a)).1, a + (openR m out.length (s.drop a)).2) ∧
    ds = [.p (.str s), .own 0 0 out.length, .p (.int .i64 a)] ∧ H' = [.arr 94 2 (out.map Rec.pv)]) 60 ⟨[], 0, rfl, by omega, by simp [openS], rfl, rfl⟩ ?_
  rintro m ds H' ⟨out, a, hm, ha, ho, rfl, rfl⟩ -
  have hb : (s.drop a).length ≤ s.length := by simp
  have h10 : cutL s a s.length = s.drop a := cut_end
  have hs := k_l1Split (s.drop a) 10 (by omega)
  have hp := (split_len 10 (s.drop a)).2
  have hh : (splitB 10 (s.drop a)).getD 0 default = headB 10 (s.drop a) := rfl
  have hhl := headB_len 10 (s.drop a)
  have hr := k_l27Read (headB 10 (s.drop a)) out.length (by omega) (by omega)
  generalize hX : readR (headB 10 (s.drop a)) out.length = X at hr
  obtain ⟨e, ok⟩ := X
  rw [rec_pv] at hr
  simp only [] at hr
  generalize hL : headB 10 (s.drop a) = L at *
  repeat' (first
    | (simp only [go_sem, Nat.lt_add_one, reduceIte, Nat.reduceEqDiff, Nat.reduceBEq, Nat.reduceAdd, Nat.reduceMul, Nat.reduceLeDiff])
    | (simp (disch := omega) only [w64, nadd1, nadd, List.take_length, Int.toNat_zero])
    | (refine Rm_need (by first | exact True.intro | omega | (simp; omega)) ?_)
    | (rw [h10])
    | (refine Rm_o hs rfl (fun r H2 hh => ?_); obtain ⟨rfl, rfl⟩ := hh)
    | (rw [hh])
    | (refine Rm_w rfl (hr) (by trivial) ?_)
    | (refine Rm_w ?_ (hr) (by trivial) ?_; · (simp [viewOfs, viewOf, List.take_of_length_le, cutL]; done))
    | (refine Rm_gi (by first | omega | (simp; omega)) ?_)
    | (refine Rm_gb (by first | omega | (simp; omega)) ?_)
    | (refine Rm_ga (by first | omega | (simp; omega)) _ rfl (Nat.le_of_ble_eq_true rfl) ?_)
    | (refine Rm_gm (by first | omega | (simp; omega)) _ rfl ?_)
    | (refine Rm_part _ _ rfl rfl ?_)
    | (refine Rm_puti (by first | omega | (simp; omega)) rfl ?_)
    | (refine Dm_draw [] (by simp) ?_)
    | (refine Tm_both ?_ ?_)
    | (refine Tm_fin (by simp only [hideOK, newsE]; simp []) ?_)
    | (refine Cm_split (fun h => ?_) (fun h => ?_) <;> (try (simp only [decide_eq_true_eq, decide_eq_false_iff_not, Bool.not_eq_true', Bool.not_eq_false'] at h)) <;> (try omega))
    | (refine Gm_split (fun h => ?_) (fun h => ?_) <;> (try simp only [ne_eq, Bool.not_eq_true, Bool.not_eq_false] at h) <;> (try rw [h]) <;> (try (simp only [decide_eq_true_eq, decide_eq_false_iff_not, bne_iff_ne, beq_iff_eq, bne_eq_false_iff_eq, beq_eq_false_iff_ne, Bool.not_eq_true, Bool.not_eq_true', Bool.not_eq_false, Bool.not_eq_false', ne_eq, Bool.and_eq_true, Bool.or_eq_true, true_eq_decide_iff, false_eq_decide_iff] at h)) <;> (try omega))
    | (refine Sm_split (fun h => ?_) (fun h => ?_) <;> (try (simp only [decide_eq_true_eq, decide_eq_false_iff_not] at h)) <;> (try omega))
    | (exact ret_p rfl ⟨rfl, rfl⟩)
    | (refine ret_okv (by first | trivial | simp only [go_sem, detD, detDs, detP, and_self, and_true]) ?_)
    | (exact ret_gen _ _ _ rfl rfl rfl ⟨rfl, rfl⟩)
    | (simp only [Option.some.injEq, DV.tup.injEq, DV.p.injEq, List.cons.injEq, PV.int.injEq, PV.bool.injEq, PV.str.injEq, and_true, true_and])
    | rfl
    | (refine Bool.eq_iff_iff.2 ?_; simp only [decide_eq_true_eq, Bool.and_eq_true, Bool.or_eq_true, Bool.not_eq_true', decide_eq_false_iff_not, Bool.false_eq_true, beq_iff_eq, bne_iff_ne, ne_eq, false_iff, iff_false, true_iff, iff_true]; omega)
    | omega)
  · rw [open_stop (.inr (.inl (mem10 (by omega))))] at ho
    rw [ho, List.append_nil]
    exact ret_gen _ _ _ rfl rfl rfl ⟨rfl, rfl⟩
  · rw [open_stop (.inr (.inr (by rw [hL, hX]; exact h)))] at ho
    rw [ho, List.append_nil]
    exact ret_gen _ _ _ rfl rfl rfl ⟨rfl, rfl⟩
  · rename_i h9
    subst h
    obtain ⟨m, rfl⟩ : ∃ m', m = m' + 1 := ⟨m - 1, by omega⟩
    obtain ⟨g1, g2⟩ := open_next ho (mem10' (by omega)) hL hX
    rw [rec_app]
    exact Xm_inv_n m (by omega) ⟨out ++ [e], a + L.length + 1, by simp; omega, g1, g2, by rw [List.length_append]; rfl, rfl⟩
  · rw [open_stop (.inl (by omega))] at ho
    rw [ho, List.append_nil]
    exact ret_gen _ _ _ rfl rfl rfl ⟨rfl, rfl⟩
  · obtain rfl : a = s.length := by omega
    rw [open_stop (.inr (.inl (by simp)))] at ho
    rw [ho, List.append_nil]
    exact ret_gen _ _ _ rfl rfl rfl ⟨rfl, rfl⟩
theorem headB_app {b : UInt8} : ∀ {p r : List UInt8}, b ∉ p → headB b (p ++ b :: r) = p
  | [], r, _ => by rw [headB_eq]; simp
  | c :: p, r, h => by
    simp only [List.mem_cons, not_or] at h
    rw [List.cons_append, headB_eq, List.takeWhile_cons, if_pos (by simpa using fun e : c = b => h.1 e.symm), ← headB_eq, headB_app h.2]
theorem scan_at {s : List UInt8} {a j : Nat} (ha : a ≤ j) (hj : j < s.length) (hno : (10 : UInt8) ∉ cutL s a j) (h : s.getD j 0 = 10) : headB 10 (s.drop a) = cutL s a j ∧ (10 : UInt8) ∈ s.drop a := by
  have e : s.drop a = cutL s a j ++ 10 :: s.drop (j + 1) := by
    have h1 : s.drop j = 10 :: s.drop (j + 1) := by rw [drop_cons (d := 0) hj, h]
    have h2 : s.drop j = (s.drop a).drop (j - a) := by rw [List.drop_drop]; congr 1; omega
    rw [← h1, h2, cutL, List.take_append_drop]
  rw [e]
  exact ⟨headB_app hno, by simp⟩

set_option maxRecDepth 100000 in
set_option maxHeartbeats 16000000 in
/-- impl.recovered -/
theorem k_recovered (s : List UInt8) (hl : s.length ≤ 8589934592) : Okw Try.prog 57 [.str s] fun d H => (d = .tup [.own 0 0 (openS s).1.length, .p (.int .i64 (openS s).2)] ∧ H = [.arr 94 2 ((openS s).1.map Rec.pv)]) ∨
    (d = .tup [.nil, .p (.int .i64 (openS s).2)] ∧ H = [] ∧ (openS s).1 = []) := by
  refine ok_D hmix c_impl_recovered (by simp) ?_
  simp only [envOf, envFrom, go_sem]
  refine Dm_loop [0, 4, 5] (fun m ds H' => ∃ (out : List Rec) (a : Nat), out.length + m = 60 ∧ a ≤ s.length ∧ openS s = (out ++ (openR m out.length (s.drop a)).1, a + (openR m out.length (s.drop a)).2) ∧
    ((out = [] ∧ ds = [.p (.str s), .nil, .p (.int .i64 a)] ∧ H' = []) ∨
     (ds = [.p (.str s), .own 0 0 out.length, .p (.int .i64 a)] ∧ H' = [.arr 94 2 (out.map Rec.pv)]))) 60 ⟨[], 0, rfl, by omega, by simp [openS], .inl ⟨rfl, rfl, rfl⟩⟩ ?_
  rintro m ds H' ⟨out, a, hm, ha, ho, hcase⟩ -
  rcases hcase with ⟨rfl, rfl, rfl⟩ | ⟨rfl, rfl⟩
  · repeat' (first
      | (simp only [go_sem, reduceIte, Nat.reduceEqDiff])
      | (simp (disch := omega) only [w64, w8, bytesOf_cons, tmod10, tdiv10, tn48, nsub1, nadd1, nsub, nadd, nmul, List.take_length, Int.toNat_zero, Int.reduceAdd, Int.reduceSub, Int.reduceToNat, Int.reduceMul, Nat.sub_zero, Nat.min_self])
      | (refine Rm_need (by first | exact True.intro | omega | (simp; omega)) ?_)
      | (refine Rm_gi (by first | omega | (simp; omega)) ?_)
      | (refine Rm_gb (by first | omega | (simp; omega)) ?_)
      | (refine Rm_ga (by first | omega | (simp; omega)) _ rfl (Nat.le_of_ble_eq_true rfl) ?_)
      | (refine Rm_gm (by first | omega | (simp; omega)) _ rfl ?_)
      | (refine Rm_part _ _ rfl rfl ?_)
      | (refine Rm_puti (by first | omega | (simp; omega)) rfl ?_)
      | (refine Dm_draw [] (by simp) ?_)
      | (refine Tm_both ?_ ?_)
      | (refine Tm_fin (by simp only [hideOK, newsE]; simp []) ?_)
      | (refine Cm_split (fun h => ?_) (fun h => ?_) <;> (try (simp only [decide_eq_true_eq, decide_eq_false_iff_not] at h)) <;> (try omega))
      | (refine Gm_split (fun h => ?_) (fun h => ?_) <;> (try simp only [ne_eq, Bool.not_eq_true, Bool.not_eq_false] at h) <;> (try rw [h]) <;> (try (simp only [decide_eq_true_eq, decide_eq_false_iff_not, bne_iff_ne, beq_iff_eq, bne_eq_false_iff_eq, beq_eq_false_iff_ne, Bool.not_eq_true, Bool.not_eq_true', Bool.not_eq_false, Bool.not_eq_false', ne_eq, Bool.and_eq_true, Bool.or_eq_true, true_eq_decide_iff, false_eq_decide_iff] at h)) <;> (try omega))
      | (refine Sm_split (fun h => ?_) (fun h => ?_) <;> (try (simp only [decide_eq_true_eq, decide_eq_false_iff_not, bne_iff_ne, beq_iff_eq, bne_eq_false_iff_eq, beq_eq_false_iff_ne, Bool.not_eq_true, Bool.not_eq_true', Bool.not_eq_false, Bool.not_eq_false', ne_eq, Bool.and_eq_true, Bool.or_eq_true, true_eq_decide_iff, false_eq_decide_iff] at h)) <;> (try omega))
      | (exact ret_p rfl ⟨rfl, rfl⟩)
      | (refine ret_okv (by first | trivial | simp only [go_sem, detD, detDs, detP, and_self, and_true]) ?_)
      | (exact ret_gen _ _ _ rfl rfl rfl ⟨rfl, rfl⟩)
      | (simp only [Option.some.injEq, DV.tup.injEq, DV.p.injEq, List.cons.injEq, PV.int.injEq, PV.bool.injEq, PV.str.injEq, and_true, true_and])
      | rfl
      | (refine Bool.eq_iff_iff.2 ?_; simp only [decide_eq_true_eq, Bool.and_eq_true, Bool.or_eq_true, Bool.not_eq_true', decide_eq_false_iff_not, Bool.false_eq_true, beq_iff_eq, bne_iff_ne, ne_eq, false_iff, iff_false, true_iff, iff_true]; omega)
      | omega)
    · refine Dm_loop [0, 4, 5, 6] (fun m ds H' => ∃ j : Nat, a ≤ j ∧ j ≤ s.length ∧ m = s.length - j ∧ (10 : UInt8) ∉ cutL s a j ∧ ds = [.p (.str s), .nil, .p (.int .i64 a), .p (.int .i64 j)] ∧ H' = []) (s.length - a) ⟨a, by omega, by omega, rfl, by rw [cut_self]; simp, rfl, rfl⟩ ?_
      rintro v ds H' ⟨j, haj, hj, rfl, hno, rfl, rfl⟩ -
      have hcl := cut_len (s := s) (a := a) (b := j)
      have hd := k_decode 0 (cutL s a j) (by omega) (by first | omega | (simp at hm; omega))
      have hcll : (cutL s a j).length = j - a := by simp [cutL]; omega
      generalize hX : readR (cutL s a j) 0 = X at hd
      obtain ⟨e, ok⟩ := X
      rw [rec_pv] at hd
      simp only [] at hd
      have hend : j = s.length → (10 : UInt8) ∉ s.drop a := fun e => by subst e; rw [← cut_end]; exact hno
      have hmid : j < s.length → ((s.getD j 0).toNat : Int) = 10 → headB 10 (s.drop a) = cutL s a j ∧ (10 : UInt8) ∈ s.drop a := fun h1 h2 => scan_at haj h1 hno ((u8_lit (n := 10) (by omega)).1 h2)
      repeat' (first
        | (simp only [go_sem, Nat.lt_add_one, reduceIte, Nat.reduceEqDiff, Nat.reduceBEq, Nat.reduceAdd, Nat.reduceMul, Nat.reduceLeDiff])
        | (simp (disch := omega) only [w64, nadd1, nadd])
        | (refine Rm_need (by first | exact True.intro | omega | (simp; omega)) ?_)
        | (refine Rm_w rfl (hd) (by trivial) ?_)
        | (refine Rm_w ?_ (hd) (by trivial) ?_; · (simp [viewOfs, viewOf, List.take_of_length_le, cutL]; done))
        | (refine Rm_gi (by first | omega | (simp; omega)) ?_)
        | (refine Rm_gb (by first | omega | (simp; omega)) ?_)
        | (refine Rm_ga (by first | omega | (simp; omega)) _ rfl (Nat.le_of_ble_eq_true rfl) ?_)
        | (refine Rm_gm (by first | omega | (simp; omega)) _ rfl ?_)
        | (refine Rm_part _ _ rfl rfl ?_)
        | (refine Rm_puti (by first | omega | (simp; omega)) rfl ?_)
        | (refine Dm_draw [] (by simp) ?_)
        | (refine Tm_both ?_ ?_)
        | (refine Tm_fin (by simp only [hideOK, newsE]; simp []) ?_)
        | (refine Cm_split (fun h => ?_) (fun h => ?_) <;> (try (simp only [bne_iff_ne, beq_iff_eq, bne_eq_false_iff_eq, beq_eq_false_iff_ne, Bool.not_eq_true', Bool.not_eq_false', ne_eq] at h)) <;> (try omega))
        | (refine Gm_split (fun h => ?_) (fun h => ?_) <;> (try simp only [ne_eq, Bool.not_eq_true, Bool.not_eq_false] at h) <;> (try rw [h]) <;> (try (simp only [decide_eq_true_eq, decide_eq_false_iff_not, bne_iff_ne, beq_iff_eq, bne_eq_false_iff_eq, beq_eq_false_iff_ne, Bool.not_eq_true, Bool.not_eq_true', Bool.not_eq_false, Bool.not_eq_false', ne_eq, Bool.and_eq_true, Bool.or_eq_true, true_eq_decide_iff, false_eq_decide_iff] at h)) <;> (try omega))
        | (refine Sm_split (fun h => ?_) (fun h => ?_) <;> (try (simp only [decide_eq_true_eq, decide_eq_false_iff_not] at h)) <;> (try omega))
        | (exact ret_p rfl ⟨rfl, rfl⟩)
        | (refine ret_okv (by first | trivial | simp only [go_sem, detD, detDs, detP, and_self, and_true]) ?_)
        | (exact ret_gen _ _ _ rfl rfl rfl ⟨rfl, rfl⟩)
        | (simp only [Option.some.injEq, DV.tup.injEq, DV.p.injEq, List.cons.injEq, PV.int.injEq, PV.bool.injEq, PV.str.injEq, and_true, true_and])
        | rfl
        | (refine Bool.eq_iff_iff.2 ?_; simp only [decide_eq_true_eq, Bool.and_eq_true, Bool.or_eq_true, Bool.not_eq_true', decide_eq_false_iff_not, Bool.false_eq_true, beq_iff_eq, bne_iff_ne, ne_eq, false_iff, iff_false, true_iff, iff_true]; omega)
        | omega)
      all_goals try rename_i hq
      · refine Xm_inv_n (s.length - (j + 1)) (by omega) ⟨j + 1, by omega, by omega, rfl, ?_, rfl, rfl⟩
        rw [cut_step (by omega) haj]
        simp only [List.mem_append, List.mem_singleton, not_or]
        exact ⟨hno, fun e => h (by rw [← e]; rfl)⟩
      · obtain ⟨g1, g2⟩ := hmid (by omega) (by assumption)
        rw [open_stop (.inr (.inr (by rw [g1]; first | (rw [hX]; exact h) | (simp only [List.length_nil]; rw [hX]; exact h))))] at ho
        rw [ho, List.append_nil]
        exact ret_gen _ _ _ rfl rfl rfl (.inr ⟨rfl, rfl, rfl⟩)
      · obtain ⟨q1, q2⟩ := hmid (by omega) (by assumption)
        subst h
        obtain ⟨m, rfl⟩ : ∃ m', m = m' + 1 := ⟨m - 1, by first | omega | (simp at hm; omega)⟩
        obtain ⟨g1, g2⟩ := open_next ho q2 q1 hX
        exact Xm_inv_n m (by simp at hm; omega) ⟨[e], a + (cutL s a j).length + 1, by simp at hm ⊢; omega, g1, g2, .inr ⟨by rw [← Nat.add_assoc]; rfl, rfl⟩⟩
      · rw [open_stop (.inr (.inl (hend (by omega))))] at ho
        rw [ho, List.append_nil]
        exact ret_gen _ _ _ rfl rfl rfl (.inr ⟨rfl, rfl, rfl⟩)
  · repeat' (first
      | (simp only [go_sem, reduceIte, Nat.reduceEqDiff])
      | (simp (disch := omega) only [w64, w8, bytesOf_cons, tmod10, tdiv10, tn48, nsub1, nadd1, nsub, nadd, nmul, List.take_length, Int.toNat_zero, Int.reduceAdd, Int.reduceSub, Int.reduceToNat, Int.reduceMul, Nat.sub_zero, Nat.min_self])
      | (refine Rm_need (by first | exact True.intro | omega | (simp; omega)) ?_)
      | (refine Rm_gi (by first | omega | (simp; omega)) ?_)
      | (refine Rm_gb (by first | omega | (simp; omega)) ?_)
      | (refine Rm_ga (by first | omega | (simp; omega)) _ rfl (Nat.le_of_ble_eq_true rfl) ?_)
      | (refine Rm_gm (by first | omega | (simp; omega)) _ rfl ?_)
      | (refine Rm_part _ _ rfl rfl ?_)
      | (refine Rm_puti (by first | omega | (simp; omega)) rfl ?_)
      | (refine Dm_draw [] (by simp) ?_)
      | (refine Tm_both ?_ ?_)
      | (refine Tm_fin (by simp only [hideOK, newsE]; simp []) ?_)
      | (refine Cm_split (fun h => ?_) (fun h => ?_) <;> (try (simp only [decide_eq_true_eq, decide_eq_false_iff_not] at h)) <;> (try omega))
      | (refine Gm_split (fun h => ?_) (fun h => ?_) <;> (try simp only [ne_eq, Bool.not_eq_true, Bool.not_eq_false] at h) <;> (try rw [h]) <;> (try (simp only [decide_eq_true_eq, decide_eq_false_iff_not, bne_iff_ne, beq_iff_eq, bne_eq_false_iff_eq, beq_eq_false_iff_ne, Bool.not_eq_true, Bool.not_eq_true', Bool.not_eq_false, Bool.not_eq_false', ne_eq, Bool.and_eq_true, Bool.or_eq_true, true_eq_decide_iff, false_eq_decide_iff] at h)) <;> (try omega))
      | (refine Sm_split (fun h => ?_) (fun h => ?_) <;> (try (simp only [decide_eq_true_eq, decide_eq_false_iff_not, bne_iff_ne, beq_iff_eq, bne_eq_false_iff_eq, beq_eq_false_iff_ne, Bool.not_eq_true, Bool.not_eq_true', Bool.not_eq_false, Bool.not_eq_false', ne_eq, Bool.and_eq_true, Bool.or_eq_true, true_eq_decide_iff, false_eq_decide_iff] at h)) <;> (try omega))
      | (exact ret_p rfl ⟨rfl, rfl⟩)
      | (refine ret_okv (by first | trivial | simp only [go_sem, detD, detDs, detP, and_self, and_true]) ?_)
      | (exact ret_gen _ _ _ rfl rfl rfl ⟨rfl, rfl⟩)
      | (simp only [Option.some.injEq, DV.tup.injEq, DV.p.injEq, List.cons.injEq, PV.int.injEq, PV.bool.injEq, PV.str.injEq, and_true, true_and])
      | rfl
      | (refine Bool.eq_iff_iff.2 ?_; simp only [decide_eq_true_eq, Bool.and_eq_true, Bool.or_eq_true, Bool.not_eq_true', decide_eq_false_iff_not, Bool.false_eq_true, beq_iff_eq, bne_iff_ne, ne_eq, false_iff, iff_false, true_iff, iff_true]; omega)
      | omega)
    · refine Dm_loop [0, 4, 5, 6] (fun m ds H' => ∃ j : Nat, a ≤ j ∧ j ≤ s.length ∧ m = s.length - j ∧ (10 : UInt8) ∉ cutL s a j ∧ ds = [.p (.str s), .own 0 0 out.length, .p (.int .i64 a), .p (.int .i64 j)] ∧ H' = [.arr 94 2 (out.map Rec.pv)]) (s.length - a) ⟨a, by omega, by omega, rfl, by rw [cut_self]; simp, rfl, rfl⟩ ?_
      rintro v ds H' ⟨j, haj, hj, rfl, hno, rfl, rfl⟩ -
      have hcl := cut_len (s := s) (a := a) (b := j)
      have hd := k_decode out.length (cutL s a j) (by omega) (by first | omega | (simp at hm; omega))
      have hcll : (cutL s a j).length = j - a := by simp [cutL]; omega
      generalize hX : readR (cutL s a j) out.length = X at hd
      obtain ⟨e, ok⟩ := X
      rw [rec_pv] at hd
      simp only [] at hd
      have hend : j = s.length → (10 : UInt8) ∉ s.drop a := fun e => by subst e; rw [← cut_end]; exact hno
      have hmid : j < s.length → ((s.getD j 0).toNat : Int) = 10 → headB 10 (s.drop a) = cutL s a j ∧ (10 : UInt8) ∈ s.drop a := fun h1 h2 => scan_at haj h1 hno ((u8_lit (n := 10) (by omega)).1 h2)
      repeat' (first
        | (simp only [go_sem, Nat.lt_add_one, reduceIte, Nat.reduceEqDiff, Nat.reduceBEq, Nat.reduceAdd, Nat.reduceMul, Nat.reduceLeDiff])
        | (simp (disch := omega) only [w64, nadd1, nadd, List.take_length])
        | (refine Rm_need (by first | exact True.intro | omega | (simp; omega)) ?_)
        | (refine Rm_w rfl (hd) (by trivial) ?_)
        | (refine Rm_w ?_ (hd) (by trivial) ?_; · (simp [viewOfs, viewOf, List.take_of_length_le, cutL]; done))
        | (refine Rm_gi (by first | omega | (simp; omega)) ?_)
        | (refine Rm_gb (by first | omega | (simp; omega)) ?_)
        | (refine Rm_ga (by first | omega | (simp; omega)) _ rfl (Nat.le_of_ble_eq_true rfl) ?_)
        | (refine Rm_gm (by first | omega | (simp; omega)) _ rfl ?_)
        | (refine Rm_part _ _ rfl rfl ?_)
        | (refine Rm_puti (by first | omega | (simp; omega)) rfl ?_)
        | (refine Dm_draw [] (by simp) ?_)
        | (refine Tm_both ?_ ?_)
        | (refine Tm_fin (by simp only [hideOK, newsE]; simp []) ?_)
        | (refine Cm_split (fun h => ?_) (fun h => ?_) <;> (try (simp only [bne_iff_ne, beq_iff_eq, bne_eq_false_iff_eq, beq_eq_false_iff_ne, Bool.not_eq_true', Bool.not_eq_false', ne_eq] at h)) <;> (try omega))
        | (refine Gm_split (fun h => ?_) (fun h => ?_) <;> (try simp only [ne_eq, Bool.not_eq_true, Bool.not_eq_false] at h) <;> (try rw [h]) <;> (try (simp only [decide_eq_true_eq, decide_eq_false_iff_not, bne_iff_ne, beq_iff_eq, bne_eq_false_iff_eq, beq_eq_false_iff_ne, Bool.not_eq_true, Bool.not_eq_true', Bool.not_eq_false, Bool.not_eq_false', ne_eq, Bool.and_eq_true, Bool.or_eq_true, true_eq_decide_iff, false_eq_decide_iff] at h)) <;> (try omega))
        | (refine Sm_split (fun h => ?_) (fun h => ?_) <;> (try (simp only [decide_eq_true_eq, decide_eq_false_iff_not] at h)) <;> (try omega))
        | (exact ret_p rfl ⟨rfl, rfl⟩)
        | (refine ret_okv (by first | trivial | simp only [go_sem, detD, detDs, detP, and_self, and_true]) ?_)
        | (exact ret_gen _ _ _ rfl rfl rfl ⟨rfl, rfl⟩)
        | (simp only [Option.some.injEq, DV.tup.injEq, DV.p.injEq, List.cons.injEq, PV.int.injEq, PV.bool.injEq, PV.str.injEq, and_true, true_and])
        | rfl
        | (refine Bool.eq_iff_iff.2 ?_; simp only [decide_eq_true_eq, Bool.and_eq_true, Bool.or_eq_true, Bool.not_eq_true', decide_eq_false_iff_not, Bool.false_eq_true, beq_iff_eq, bne_iff_ne, ne_eq, false_iff, iff_false, true_iff, iff_true]; omega)
        | omega)
      all_goals try rename_i hq
      · refine Xm_inv_n (s.length - (j + 1)) (by omega) ⟨j + 1, by omega, by omega, rfl, ?_, rfl, rfl⟩
        rw [cut_step (by omega) haj]
        simp only [List.mem_append, List.mem_singleton, not_or]
        exact ⟨hno, fun e => h (by rw [← e]; rfl)⟩
      · obtain ⟨g1, g2⟩ := hmid (by omega) (by assumption)
        rw [open_stop (.inr (.inr (by rw [g1]; first | (rw [hX]; exact h) | (simp only [List.length_nil]; rw [hX]; exact h))))] at ho
        rw [ho, List.append_nil]
        exact ret_gen _ _ _ rfl rfl rfl (.inl ⟨rfl, rfl⟩)
      · obtain ⟨q1, q2⟩ := hmid (by omega) (by assumption)
        subst h
        obtain ⟨m, rfl⟩ : ∃ m', m = m' + 1 := ⟨m - 1, by first | omega | (simp at hm; omega)⟩
        obtain ⟨g1, g2⟩ := open_next ho q2 q1 hX
        rw [rec_app]
        exact Xm_inv_n m (by omega) ⟨out ++ [e], a + (cutL s a j).length + 1, by simp; omega, g1, g2, .inr ⟨by rw [List.length_append, ← Nat.add_assoc]; rfl, rfl⟩⟩
      · rw [open_stop (.inr (.inl (hend (by omega))))] at ho
        rw [ho, List.append_nil]
        exact ret_gen _ _ _ rfl rfl rfl (.inl ⟨rfl, rfl⟩)
    · rw [open_stop (.inl (by omega))] at ho
      rw [ho, List.append_nil]
      exact ret_gen _ _ _ rfl rfl rfl (.inl ⟨rfl, rfl⟩)
end Go.Proofs.Ytjmgaminkacemaa

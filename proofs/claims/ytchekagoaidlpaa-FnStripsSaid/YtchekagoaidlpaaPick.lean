import Derived.Test.YtchekagoaidlpaaCur
namespace Go.Proofs.Ytchekagoaidlpaa
open Go.Dv Go.Dv.EvL
attribute [local irreducible] Ok Rm Dm Om Sm Xm Cm Gm Hm Tm

/-! ### draws, a step each -/
theorem lt_of_at {H : Heap} {c : Nat} {o : OB} (h : H[c]? = some o) : c < H.length := by
  rcases Nat.lt_or_ge c H.length with h1 | h1
  · exact h1
  · rw [List.getElem?_eq_none h1] at h
    cases h
theorem getD_at_ob {H : Heap} {c : Nat} {o : OB} (h : H[c]? = some o) : H.getD c .dead = o := by rw [List.getD_eq_getElem?_getD, h]; rfl
theorem cur_ren {ids : List Nat} {code : List UInt8} {a s : Int} : renB ids (curO code a s) = curO code a s := rfl
theorem heap_cur {H : Heap} {c : Nat} {code : List UInt8} {a s : Int} (h0 : H[c]? = some (curO code a s)) : heapOf [c] H = [curO code a s] := by
  simp only [heapOf, List.map_cons, List.map_nil, getD_at_ob h0, cur_ren]
theorem heap_cur2 {H : Heap} {c j t k : Nat} {ys : List PV} {code : List UInt8} {a s : Int} (h0 : H[c]? = some (curO code a s)) (h1 : H[j]? = some (.arr t k ys)) : heapOf [c, j] H = [curO code a s, .arr t k ys] := by
  simp only [heapOf, List.map_cons, List.map_nil, getD_at_ob h0, getD_at_ob h1, cur_ren]
  rfl
theorem merge_cur {H : Heap} {c : Nat} {code : List UInt8} {a s : Int} : mergeH [c] H [curO code a s] = setL H c (curO code a s) := by
  simp only [mergeH, List.length_cons, List.length_nil, Nat.zero_add, List.take_succ_cons, List.take_zero, List.map_cons, List.map_nil, List.drop_succ_cons, List.drop_zero, List.append_nil, putAll]
  rfl
theorem set_same {α : Type} : ∀ {l : List α} {j : Nat} {y : α}, l[j]? = some y → setL l j y = l
  | [], _, _, h => by simp at h
  | x :: l, 0, y, h => by
    simp only [List.getElem?_cons_zero, Option.some.injEq] at h
    subst h
    rfl
  | x :: l, j + 1, y, h => by
    simp only [List.getElem?_cons_succ] at h
    simp only [setL, set_same h]
theorem setL_ne {α : Type} : ∀ {l : List α} {i j : Nat} {x : α}, i ≠ j → (setL l i x)[j]? = l[j]?
  | [], _, _, _, _ => by simp [setL]
  | y :: l, 0, 0, x, h => absurd rfl h
  | y :: l, 0, j + 1, x, _ => by simp [setL]
  | y :: l, i + 1, 0, x, _ => by simp [setL]
  | y :: l, i + 1, j + 1, x, h => by
    simp only [setL, List.getElem?_cons_succ]
    exact setL_ne fun e => h (by rw [e])
theorem merge_cur2 {H : Heap} {c j t k : Nat} {ys : List PV} {code : List UInt8} {a s : Int} (hj : c ≠ j) (h1 : H[j]? = some (.arr t k ys)) : mergeH [c, j] H [curO code a s, .arr t k ys] = setL H c (curO code a s) := by
  simp only [mergeH, List.length_cons, List.length_nil, Nat.zero_add, List.take_succ_cons, List.take_zero, List.map_cons, List.map_nil, List.drop_succ_cons, List.drop_zero, List.append_nil, putAll]
  exact set_same (by rw [setL_ne hj]; exact h1)

theorem cur_bk {ids : List Nat} {n : Nat} {code : List UInt8} {a s : Int} : bkB ids n (curO code a s) = curO code a s := rfl
attribute [go_sem] cur_bk
theorem cutL_length {α : Type} {s : List α} {a b : Nat} : (cutL s a b).length = min (b - a) (s.length - a) := by simp [cutL]
attribute [simp] cutL_length
section
variable {nin c : Nat} {d : Option Nat} {os : List GOp} {s : Stk} {env : Env} {H : Heap} {code : List UInt8} {a sd : Int}
theorem Rm_pick {n : Int} (hc : code.length ≤ 65536) (h0 : H[c]? = some (curO code a sd)) (ha : 0 ≤ a ∧ a ≤ 1099511627770) (hn : n ≤ 1099511627776)
    (h2 : ∀ (r : Nat) (a' s' : Int), ((r : Int) < n ∨ r = 0) → a ≤ a' → a' ≤ a + 2 → Sm (mdP Try.prog nin) false (asked d os) (.p (.int .i64 r)) d os s env (setL H c (curO code a' s'))) :
    Rm (mdP Try.prog nin) false (.call 88 [.ptr c 0 0, .p (.int .i64 n)] H) d os s env := by
  refine Rm_i [c] (args' := [.ptr 0 0 0, .p (.int .i64 n)]) ((heap_cur h0).symm ▸ k_pick code a sd n hc ha hn) (by simp) (by have := lt_of_at h0; simpa using this) ⟨_, _, rfl, .inl (by simp [ren]), _, _, rfl, .inl rfl, rfl⟩ (fun r H2 hh => ?_)
  obtain ⟨x, a', s', rfl, g1, g2, g3, g4, rfl⟩ := hh
  rw [merge_cur]
  obtain ⟨n, rfl⟩ : ∃ n : Nat, x = n := ⟨x.toNat, by omega⟩
  exact h2 n a' s' (by omega) g3 g4
/-- a method of the cursor, its other arguments plain -/
theorem Rm_mc {f : FuncId} {Q : DV → Heap → Prop} {ds : List DV} {xs : List PV} (hx : pvOfs ds = some xs) (h0 : H[c]? = some (curO code a sd)) (h : Ok Try.prog f (.ptr 0 0 0 :: xs.map .p) [curO code a sd] Q)
    (h2 : ∀ r H2, Q r H2 → Sm (mdP Try.prog nin) false (asked d os) (bk [c] H.length r) d os s env (mergeH [c] H H2)) :
    Rm (mdP Try.prog nin) false (.call f (.ptr c 0 0 :: ds) H) d os s env := by
  refine Rm_i [c] (args' := .ptr 0 0 0 :: xs.map .p) ((heap_cur h0).symm ▸ h) (by simp) (by have := lt_of_at h0; simpa using this) ⟨_, _, rfl, .inl (by simp [ren]), argsP_pv hx⟩ h2
theorem Rm_one {n : Int} (hc : code.length ≤ 65536) (h0 : H[c]? = some (curO code a sd)) (ha : 0 ≤ a ∧ a ≤ 1099511627770) (hn : n ≤ 1099511627776)
    (h2 : ∀ (r : Bool) (a' s' : Int), a ≤ a' → a' ≤ a + 2 → Sm (mdP Try.prog nin) false (asked d os) (.p (.bool r)) d os s env (setL H c (curO code a' s'))) :
    Rm (mdP Try.prog nin) false (.call 90 [.ptr c 0 0, .p (.int .i64 n)] H) d os s env := by
  refine Rm_i [c] (args' := [.ptr 0 0 0, .p (.int .i64 n)]) ((heap_cur h0).symm ▸ k_one code a sd n hc ha hn) (by simp) (by have := lt_of_at h0; simpa using this) ⟨_, _, rfl, .inl (by simp [ren]), _, _, rfl, .inl rfl, rfl⟩ (fun r H2 hh => ?_)
  obtain ⟨x, a', s', rfl, g3, g4, rfl⟩ := hh
  rw [merge_cur]
  exact h2 x a' s' g3 g4
def intsOf : List PV → Option (List Int)
  | [] => some []
  | .int .i64 n :: xs => (intsOf xs).map (n :: ·)
  | _ => none
def strsOf : List PV → Option (List (List UInt8))
  | [] => some []
  | .str n :: xs => (strsOf xs).map (n :: ·)
  | _ => none
theorem intsOf_map : ∀ {ys : List PV} {xs : List Int}, intsOf ys = some xs → ys = xs.map (.int .i64)
  | [], xs, h => by
    obtain rfl := Option.some.inj h
    rfl
  | y :: ys, xs, h => by
    unfold intsOf at h
    split at h
    · rename_i e; cases e
    · rename_i n zs e
      obtain ⟨rfl, rfl⟩ := List.cons.inj e
      simp only [Option.map_eq_some_iff] at h
      obtain ⟨ws, h1, rfl⟩ := h
      rw [List.map_cons, ← intsOf_map h1]
    · cases h
theorem strsOf_map : ∀ {ys : List PV} {xs : List (List UInt8)}, strsOf ys = some xs → ys = xs.map .str
  | [], xs, h => by
    obtain rfl := Option.some.inj h
    rfl
  | y :: ys, xs, h => by
    unfold strsOf at h
    split at h
    · rename_i e; cases e
    · rename_i n zs e
      obtain ⟨rfl, rfl⟩ := List.cons.inj e
      simp only [Option.map_eq_some_iff] at h
      obtain ⟨ws, h1, rfl⟩ := h
      rw [List.map_cons, ← strsOf_map h1]
    · cases h
theorem Rm_among {m j : Nat} {ys : List PV} {xs : List Int} (lo hi : Int) (hc : code.length ≤ 65536) (h0 : H[c]? = some (curO code a sd)) (hj : H[j]? = some (.arr 3 1 ys)) (hx : intsOf ys = some xs) (hcj : c < j) (ha : 0 ≤ a ∧ a ≤ 1099511627770) (hm : 0 < m ∧ m ≤ xs.length ∧ m ≤ 1000)
    (hb : ∀ x ∈ xs, lo ≤ x ∧ x ≤ hi)
    (h2 : ∀ r a' s' : Int, lo ≤ r → r ≤ hi → r ∈ xs.take m → a ≤ a' → a' ≤ a + 2 → Sm (mdP Try.prog nin) false (asked d os) (.p (.int .i64 r)) d os s env (setL H c (curO code a' s'))) :
    Rm (mdP Try.prog nin) false (.call 87 [.ptr c 0 0, .own j 0 m] H) d os s env := by
  have e := intsOf_map hx
  subst e
  have hne : c ≠ j := by omega
  refine Rm_i [c, j] (args' := [.ptr 0 0 0, .own 1 0 m]) ((heap_cur2 h0 hj).symm ▸ k_among code a sd xs m hc ha hm) (by simp [hne]) (by have := lt_of_at h0; have := lt_of_at hj; simp; omega) ⟨_, _, rfl, .inl (by simp [ren]), _, _, rfl, .inl (by simp [ren, List.idxOf_cons, beq_eq_false_iff_ne.2 hne]), rfl⟩ (fun r H2 hh => ?_)
  obtain ⟨x, a', s', rfl, g1, g3, g4, rfl⟩ := hh
  rw [merge_cur2 hne hj]
  have := hb x (List.mem_of_mem_take g1)
  exact h2 x a' s' this.1 this.2 g1 g3 g4
theorem Rm_of {m j : Nat} {ys : List PV} {xs : List (List UInt8)} (L : Nat) (hc : code.length ≤ 65536) (h0 : H[c]? = some (curO code a sd)) (hj : H[j]? = some (.arr 9 1 ys)) (hx : strsOf ys = some xs) (hcj : c < j) (ha : 0 ≤ a ∧ a ≤ 1099511627770) (hm : 0 < m ∧ m ≤ xs.length ∧ m ≤ 1000)
    (hb : ∀ x ∈ xs, x.length ≤ L)
    (h2 : ∀ (r : List UInt8) (a' s' : Int), r.length ≤ L → r ∈ xs.take m → a ≤ a' → a' ≤ a + 2 → Sm (mdP Try.prog nin) false (asked d os) (.p (.str r)) d os s env (setL H c (curO code a' s'))) :
    Rm (mdP Try.prog nin) false (.call 106 [.ptr c 0 0, .own j 0 m] H) d os s env := by
  have e := strsOf_map hx
  subst e
  have hne : c ≠ j := by omega
  refine Rm_i [c, j] (args' := [.ptr 0 0 0, .own 1 0 m]) ((heap_cur2 h0 hj).symm ▸ k_of code a sd xs m hc ha hm) (by simp [hne]) (by have := lt_of_at h0; have := lt_of_at hj; simp; omega) ⟨_, _, rfl, .inl (by simp [ren]), _, _, rfl, .inl (by simp [ren, List.idxOf_cons, beq_eq_false_iff_ne.2 hne]), rfl⟩ (fun r H2 hh => ?_)
  obtain ⟨x, a', s', rfl, g1, g3, g4, rfl⟩ := hh
  rw [merge_cur2 hne hj]
  exact h2 x a' s' (hb x (List.mem_of_mem_take g1)) g1 g3 g4
end
set_option maxRecDepth 100000 in
set_option maxHeartbeats 16000000 in
/-- spec.l1Cur.spoilt -/
theorem k_spoilt (code : List UInt8) (a s : Int) (t w : List UInt8) (hc : code.length ≤ 65536) (ha : 0 ≤ a ∧ a ≤ 1099511627000) (ht : t.length ≤ 1000000) (hw : 0 < w.length ∧ w.length ≤ 1000) :
    Ok Try.prog 91 [.ptr 0 0 0, .p (.str t), .p (.str w)] [curO code a s]
    fun d H => ∃ (r : List UInt8) (a' s' : Int), d = .p (.str r) ∧ r.length ≤ t.length + 1 ∧ a ≤ a' ∧ a' ≤ a + 10 ∧ H = [curO code a' s'] := by
  refine ok_D hmix c_spec_l1Cur_spoilt (by simp) ?_
  have hz : t = [] ∨ 0 < t.length := by
    rcases t with _ | ⟨x, t⟩
    · exact .inl rfl
    · exact .inr (by simp)
  rcases hz with rfl | hz
  · simp only [envOf, envFrom, go_sem, reduceIte, Nat.reduceEqDiff, Nat.reduceAdd]
    repeat' (first
      | (simp only [go_sem, reduceIte, Nat.reduceEqDiff])
      | (simp (disch := omega) only [Int.reduceToNat])
      | (refine Rm_need (by first | exact True.intro | omega | (simp; omega)) ?_)
      | (refine Rm_pick hc rfl (by omega) (by first | omega | (simp; omega)) (fun r a1 s1 q2 q3 q4 => ?_))
      | (refine Rm_one hc rfl (by omega) (by first | omega | (simp; omega)) (fun r a1 s1 q3 q4 => ?_))
      | (refine Rm_of 1000 hc rfl rfl rfl (by omega) (by omega) (by first | decide | omega) (by decide) (fun r a1 s1 q1 q2 q3 q4 => ?_); clear q2)
      | (refine Rm_among (-1000000000000) 1000000000000 hc rfl rfl rfl (by omega) (by omega) (by first | decide | (simp; omega)) (by decide) (fun r a1 s1 q1 q2 q5 q3 q4 => ?_); clear q5)
      | (refine Rm_gi (by first | omega | (simp; omega)) ?_)
      | (refine Rm_gb (by first | omega | (simp; omega)) ?_)
      | (refine Rm_ga (by first | omega | (simp; omega)) _ rfl (Nat.le_of_ble_eq_true rfl) ?_)
      | (refine Rm_gm (by first | omega | (simp; omega)) _ rfl ?_)
      | (refine Rm_part _ _ rfl rfl ?_)
      | (refine Rm_puti (by first | omega | (simp; omega)) rfl ?_)
      | (refine Dm_draw [] (by simp) ?_)
      | (refine Tm_both ?_ ?_)
      | (refine Tm_fin (by simp only [hideOK, newsE]; simp []) ?_)
      | (refine Cm_split (fun h => ?_) (fun h => ?_) <;> (try (simp only [decide_eq_true_eq, decide_eq_false_iff_not, bne_iff_ne, beq_iff_eq, bne_eq_false_iff_eq, beq_eq_false_iff_ne, Bool.not_eq_true, Bool.not_eq_true', Bool.not_eq_false, Bool.not_eq_false', ne_eq, Bool.and_eq_true, Bool.or_eq_true, true_eq_decide_iff, false_eq_decide_iff] at h)) <;> (try omega))
      | (refine Gm_split (fun h => ?_) (fun h => ?_) <;> (try simp only [ne_eq, Bool.not_eq_true, Bool.not_eq_false] at h) <;> (try rw [h]) <;> (try (simp only [decide_eq_true_eq, decide_eq_false_iff_not, bne_iff_ne, beq_iff_eq, bne_eq_false_iff_eq, beq_eq_false_iff_ne, Bool.not_eq_true, Bool.not_eq_true', Bool.not_eq_false, Bool.not_eq_false', ne_eq, Bool.and_eq_true, Bool.or_eq_true, true_eq_decide_iff, false_eq_decide_iff] at h)) <;> (try omega))
      | (refine Sm_split (fun h => ?_) (fun h => ?_) <;> (try (simp only [decide_eq_true_eq, decide_eq_false_iff_not, bne_iff_ne, beq_iff_eq, bne_eq_false_iff_eq, beq_eq_false_iff_ne, Bool.not_eq_true, Bool.not_eq_true', Bool.not_eq_false, Bool.not_eq_false', ne_eq, Bool.and_eq_true, Bool.or_eq_true, true_eq_decide_iff, false_eq_decide_iff] at h)) <;> (try omega))
      | (exact ret_p rfl ⟨rfl, rfl⟩)
      | (refine ret_okv (by first | trivial | simp only [go_sem, detD, detDs, detP, and_self, and_true]) ?_)
      | (exact ret_gen _ _ _ rfl rfl rfl ⟨rfl, rfl⟩)
      | (simp only [Option.some.injEq, DV.tup.injEq, DV.p.injEq, List.cons.injEq, PV.int.injEq, PV.bool.injEq, PV.str.injEq, and_true, true_and])
      | rfl
      | (refine Bool.eq_iff_iff.2 ?_; simp only [decide_eq_true_eq, Bool.and_eq_true, Bool.or_eq_true, Bool.not_eq_true', decide_eq_false_iff_not, Bool.false_eq_true, beq_iff_eq, bne_iff_ne, ne_eq, false_iff, iff_false, true_iff, iff_true]; omega)
      | omega)
    all_goals exact ret_gen _ _ _ rfl rfl rfl ⟨_, _, _, rfl, by simp; omega, by omega, by omega, rfl⟩
  · simp only [envOf, envFrom, go_sem, reduceIte, Nat.reduceEqDiff, Nat.reduceAdd]
    repeat' (first
      | (simp only [go_sem, reduceIte, Nat.reduceEqDiff])
      | (simp (disch := omega) only [w64, nadd1, Int.reduceToNat])
      | (refine Rm_need (by first | exact True.intro | omega | (simp; omega)) ?_)
      | (refine Rm_pick hc rfl (by omega) (by first | omega | (simp; omega)) (fun r a1 s1 q2 q3 q4 => ?_))
      | (refine Rm_one hc rfl (by omega) (by first | omega | (simp; omega)) (fun r a1 s1 q3 q4 => ?_))
      | (refine Rm_of 1000 hc rfl rfl rfl (by omega) (by omega) (by first | decide | omega) (by decide) (fun r a1 s1 q1 q2 q3 q4 => ?_); clear q2)
      | (refine Rm_among (-1000000000000) 1000000000000 hc rfl rfl rfl (by omega) (by omega) (by first | decide | (simp; omega)) (by decide) (fun r a1 s1 q1 q2 q5 q3 q4 => ?_); clear q5)
      | (refine Rm_gi (by first | omega | (simp; omega)) ?_)
      | (refine Rm_gb (by first | omega | (simp; omega)) ?_)
      | (refine Rm_ga (by first | omega | (simp; omega)) _ rfl (Nat.le_of_ble_eq_true rfl) ?_)
      | (refine Rm_gm (by first | omega | (simp; omega)) _ rfl ?_)
      | (refine Rm_part _ _ rfl rfl ?_)
      | (refine Rm_puti (by first | omega | (simp; omega)) rfl ?_)
      | (refine Dm_draw [] (by simp) ?_)
      | (refine Tm_both ?_ ?_)
      | (refine Tm_fin (by simp only [hideOK, newsE]; simp []) ?_)
      | (refine Cm_split (fun h => ?_) (fun h => ?_) <;> (try (simp only [beq_iff_eq, beq_eq_false_iff_ne, ne_eq] at h)) <;> (try omega))
      | (refine Gm_split (fun h => ?_) (fun h => ?_) <;> (try simp only [ne_eq, Bool.not_eq_true, Bool.not_eq_false] at h) <;> (try rw [h]) <;> (try (simp only [decide_eq_true_eq, decide_eq_false_iff_not, bne_iff_ne, beq_iff_eq, bne_eq_false_iff_eq, beq_eq_false_iff_ne, Bool.not_eq_true, Bool.not_eq_true', Bool.not_eq_false, Bool.not_eq_false', ne_eq, Bool.and_eq_true, Bool.or_eq_true, true_eq_decide_iff, false_eq_decide_iff] at h)) <;> (try omega))
      | (refine Sm_split (fun h => ?_) (fun h => ?_) <;> (try (simp only [decide_eq_true_eq, decide_eq_false_iff_not, bne_iff_ne, beq_iff_eq, bne_eq_false_iff_eq, beq_eq_false_iff_ne, Bool.not_eq_true, Bool.not_eq_true', Bool.not_eq_false, Bool.not_eq_false', ne_eq, Bool.and_eq_true, Bool.or_eq_true, true_eq_decide_iff, false_eq_decide_iff] at h)) <;> (try omega))
      | (exact ret_p rfl ⟨rfl, rfl⟩)
      | (refine ret_okv (by first | trivial | simp only [go_sem, detD, detDs, detP, and_self, and_true]) ?_)
      | (exact ret_gen _ _ _ rfl rfl rfl ⟨rfl, rfl⟩)
      | (simp only [Option.some.injEq, DV.tup.injEq, DV.p.injEq, List.cons.injEq, PV.int.injEq, PV.bool.injEq, PV.str.injEq, and_true, true_and])
      | rfl
      | (refine Bool.eq_iff_iff.2 ?_; simp only [decide_eq_true_eq, Bool.and_eq_true, Bool.or_eq_true, Bool.not_eq_true', decide_eq_false_iff_not, Bool.false_eq_true, beq_iff_eq, bne_iff_ne, ne_eq, false_iff, iff_false, true_iff, iff_true]; omega)
      | omega)
    all_goals first | exact ret_gen _ _ _ rfl rfl rfl ⟨_, _, _, rfl, by simp; omega, by omega, by omega, rfl⟩ | skip
end Go.Proofs.Ytchekagoaidlpaa

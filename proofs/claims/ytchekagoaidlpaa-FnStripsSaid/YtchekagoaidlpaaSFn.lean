import Derived.Test.YtchekagoaidlpaaSDraw2
import Derived.Test.YtchekagoaidlpaaSp11
import Derived.Test.YtchekagoaidlpaaSp4
import Derived.Test.YtchekagoaidlpaaSp6
import Derived.Test.YtchekagoaidlpaaSp7
namespace Go.Proofs.Ytchekagoaidlpaa
open Go.Dv Go.Dv.EvL
attribute [local irreducible] Ok Rm Dm Om Sm Xm Cm Gm Hm Tm

/-! ### what FnStrips asks, in plain words -/
theorem nm_small {x : Stp} (h : stB x = true) : StFits x := by
  obtain ⟨h1, h2, h3, h4, h5⟩ := st_fine h
  refine ⟨by omega, by omega, fun r hr => ?_⟩
  have := st_pts h r hr
  omega
theorem via_ok {v u : Stp} {p : Txt} {i : Int} (h : viaS v p i = some u) : stB v = true ∧ stB u = true ∧ u.route = viaR v p i.toNat ∧ 0 ≤ i ∧ i ≤ v.route.length := by
  unfold viaS at h
  split at h
  · rename_i h1
    cases h
    exact ⟨h1.1, h1.2.2, rfl, h1.2.1⟩
  · cases h
theorem viaR_len {v : Stp} {p : Txt} {n : Nat} (hn : n ≤ v.route.length) : (viaR v p n).length = v.route.length + 1 := by
  unfold viaR
  simp only [List.length_append, List.length_take, List.length_drop, List.length_cons, List.length_nil]
  omega
theorem viaR_p {v : Stp} {p : Txt} {n : Nat} : p ∈ viaR v p n := by simp [viaR]
theorem viaR_in {v : Stp} {p : Txt} {n : Nat} {r : Txt} (h : r ∈ v.route) : r ∈ viaR v p n := by
  have : r ∈ v.route.take n ++ v.route.drop n := by rw [List.take_append_drop]; exact h
  simp only [viaR, List.mem_append] at this ⊢
  rcases this with h | h
  · exact .inl (.inl h)
  · exact .inr h
theorem cutP_mem {p : Txt} : ∀ {xs : List Txt}, p ∈ xs → ∃ r, cutP p xs = some r ∧ r.getD 0 [] = p ∧ 0 < r.length
  | [], h => by simp at h
  | x :: xs, h => by
    unfold cutP
    by_cases e : x = p
    · subst e
      rw [if_pos rfl]
      exact ⟨_, rfl, rfl, by simp⟩
    · rw [if_neg e]
      simp only [List.mem_cons] at h
      rcases h with h | h
      · exact absurd h.symm e
      · exact cutP_mem h
theorem via_cut {v u : Stp} {p : Txt} {i : Int} (h : viaS v p i = some u) : ∃ c, cutS u p = some c ∧ c.route.getD 0 [] = p ∧ 0 < c.route.length := by
  obtain ⟨h1, h2, h3, h4⟩ := via_ok h
  obtain ⟨r, g1, g2, g3⟩ := cutP_mem (p := p) (xs := u.route) (h3 ▸ viaR_p)
  unfold cutS
  rw [if_pos h2, g1]
  exact ⟨_, rfl, g2, g3⟩
theorem del_back {x l : Stp} {n : Int} (h : delS x n = some l) : delS l (-n) = some x := by
  unfold delS at h
  split at h
  · rename_i h1
    obtain ⟨a, b, c⟩ := h1
    cases h
    have e : x.mn + n + -n = x.mn := by omega
    unfold delS
    simp only [e]
    rw [if_pos ⟨c, by omega, a⟩]
  · cases h
theorem stO_ok (x : Stp) : (stO x).2 = stB x := by
  unfold stO
  cases stB x <;> rfl
theorem stO_back {x : Stp} (h : stB x = true) : iParse (stO x).1 = some x := by
  unfold stO
  rw [if_pos h]
  exact iParse_at h
theorem cm_some {xs ys : List Txt} : ∀ {n i : Nat}, i < n → xs.getD i [] ∈ ys → 0 < (cmTo xs ys n).length
  | 0, i, h, _ => by omega
  | n + 1, i, h, hm => by
    unfold cmTo
    by_cases hi : i < n
    · have := cm_some hi hm
      split <;> simp <;> omega
    · obtain rfl : i = n := by omega
      split
      · simp
      · rename_i hn
        have : xs.getD i [] ∈ cmTo xs ys i := Classical.byContradiction fun h => hn ⟨hm, h⟩
        exact List.length_pos_iff.2 (List.ne_nil_of_mem this)
theorem via_common {v u : Stp} {p : Txt} {i : Int} (h : viaS v p i = some u) : (cmO u v).2 = true ∧ 0 < (cmO u v).1.length := by
  obtain ⟨h1, h2, h3, h4⟩ := via_ok h
  have hv := (st_fine h1).2.2.1
  have hm : v.route.getD 0 [] ∈ u.route := h3 ▸ viaR_in (getD_mem (by omega))
  obtain ⟨j, hj, e⟩ := List.mem_iff_getElem.1 hm
  unfold cmO
  rw [if_pos ⟨h2, h1⟩]
  refine ⟨rfl, cm_some (i := j) hj ?_⟩
  rw [List.getD_eq_getElem?_getD, List.getElem?_eq_getElem hj, Option.getD_some, e]
  exact getD_mem (by omega)
theorem pl_txt {f : FuncId} {xs : List PV} {o : List Txt × Bool} (h : Okw Try.prog f xs (TxN o)) : Okv Try.prog f xs (.tup [.p (.sl 1 (o.1.map .str)), .p (.bool o.2)]) := by
  refine ok_frz h fun d H h => ⟨fun ob ho => by simp at ho, _, ?_, rfl, by simp⟩
  obtain ⟨l, b⟩ := o
  rcases h with h | ⟨rfl, rfl, h⟩
  · obtain ⟨rfl, rfl⟩ := h
    refine .inr ⟨_, [.sl 1 (l.map .str), .bool b], rfl, ?_, rfl⟩
    simp [hid, viewOf, viewOfs, List.take_of_length_le]
  · simp only [] at h
    subst h
    exact .inr ⟨_, _, rfl, rfl, rfl⟩
theorem getD_fits {o : Option Stp} (h : ∀ t, o = some t → stB t = true) : StFits (o.getD default) := by
  cases o with
  | none => exact ⟨by decide, by decide, fun r hr => by simp [Option.getD, default] at hr⟩
  | some t => exact nm_small (h t rfl)
theorem ip_ok {s : Txt} {t : Stp} (h : iParse s = some t) : stB t = true := by
  unfold iParse at h
  split at h
  · rename_i ok
    cases h
    exact ok.2.2.2.2.2.1
  · cases h
theorem cut_ok {s t : Stp} {p : Txt} (h : cutS s p = some t) : t.route.length ≤ s.route.length := by
  unfold cutS at h
  split at h
  · simp only [Option.map_eq_some_iff] at h
    obtain ⟨r, hr, rfl⟩ := h
    have : ∀ xs : List Txt, ∀ r, cutP p xs = some r → r.length ≤ xs.length := by
      intro xs
      induction xs with
      | nil => intro r h; cases h
      | cons x xs ih =>
        intro r h
        unfold cutP at h
        split at h
        · cases h; simp
        · have := ih r h; simp; omega
    exact this _ _ hr
  · cases h
theorem del_ok {s t : Stp} {n : Int} (h : delS s n = some t) : stB t = true := by
  unfold delS at h
  split at h
  · rename_i h1; cases h; exact h1.2.2
  · cases h
/-! ### the five parts -/
theorem part1 (x : Stp) (hx : StIn x) : ∃ (t : Txt) (b : Bool) (o : Stp) (ob : Bool), Okv Try.prog 33 [.agg [.str x.name, .int .i64 x.ht, .sl 1 (x.route.map .str), .int .i64 x.mn]] (.tup [.p (.str t), .p (.bool b)]) ∧ Okv Try.prog 32 [.agg [.str x.name, .int .i64 x.ht, .sl 1 (x.route.map .str), .int .i64 x.mn]] (.tup [.p (.str t), .p (.bool b)]) ∧
    Okv Try.prog 17 [.agg [.str x.name, .int .i64 x.ht, .sl 1 (x.route.map .str), .int .i64 x.mn]] (.p (.bool b)) ∧ Okv Try.prog 43 [.str t] (.tup [.p (.agg [.str o.name, .int .i64 o.ht, .sl 1 (o.route.map .str), .int .i64 o.mn]), .p (.bool ob)]) ∧ (b = true → ob = true ∧ o = x) ∧ Okv Try.prog 51 [.agg [.str x.name, .int .i64 x.ht, .sl 1 (x.route.map .str), .int .i64 x.mn], .agg [.str x.name, .int .i64 x.ht, .sl 1 (x.route.map .str), .int .i64 x.mn]] (.p (.bool true)) := by
  have hf := in_fits hx
  refine ⟨(stO x).1, (stO x).2, (iParse (stO x).1).getD default, (iParse (stO x).1).isSome, k_iStripText x hf, k_sStripText x hf, ?_, pl_out (k_iParseStrip _ (by have := @stO_len x; omega)), fun hb => ?_, k_rStrip x hf.2.1⟩
  · rw [stO_ok]; exact k_IsValidStrip x hf
  · rw [stO_ok] at hb
    rw [stO_back hb]
    exact ⟨rfl, rfl⟩
theorem part2 (t : Txt) (ht : t.length ≤ 151) : ∃ (o : Stp) (ob : Bool), Okv Try.prog 43 [.str t] (.tup [.p (.agg [.str o.name, .int .i64 o.ht, .sl 1 (o.route.map .str), .int .i64 o.mn]), .p (.bool ob)]) ∧ Okv Try.prog 42 [.str t] (.tup [.p (.agg [.str o.name, .int .i64 o.ht, .sl 1 (o.route.map .str), .int .i64 o.mn]), .p (.bool ob)]) ∧ Okv Try.prog 51 [.agg [.str o.name, .int .i64 o.ht, .sl 1 (o.route.map .str), .int .i64 o.mn], .agg [.str o.name, .int .i64 o.ht, .sl 1 (o.route.map .str), .int .i64 o.mn]] (.p (.bool true)) := by
  refine ⟨(iParse t).getD default, (iParse t).isSome, pl_out (k_iParseStrip t (by omega)), ?_, k_rStrip _ (getD_fits fun t h => ip_ok h).2.1⟩
  rw [parse_same]
  exact pl_out (k_sParseStrip t (by omega))
theorem part3 (x : Stp) (p : Txt) (i : Int) (hx : StIn x) (hp : p.length ≤ 1000) : ∃ (o : Stp) (ob : Bool), Okv Try.prog 20 [.agg [.str x.name, .int .i64 x.ht, .sl 1 (x.route.map .str), .int .i64 x.mn], .str p, .int .i64 i] (.tup [.p (.agg [.str o.name, .int .i64 o.ht, .sl 1 (o.route.map .str), .int .i64 o.mn]), .p (.bool ob)]) ∧ Okv Try.prog 19 [.agg [.str x.name, .int .i64 x.ht, .sl 1 (x.route.map .str), .int .i64 x.mn], .str p, .int .i64 i] (.tup [.p (.agg [.str o.name, .int .i64 o.ht, .sl 1 (o.route.map .str), .int .i64 o.mn]), .p (.bool ob)]) ∧
    Okv Try.prog 51 [.agg [.str o.name, .int .i64 o.ht, .sl 1 (o.route.map .str), .int .i64 o.mn], .agg [.str o.name, .int .i64 o.ht, .sl 1 (o.route.map .str), .int .i64 o.mn]] (.p (.bool true)) ∧ (ob = true → ∃ (c : Stp) (L : List Txt), Okv Try.prog 24 [.agg [.str o.name, .int .i64 o.ht, .sl 1 (o.route.map .str), .int .i64 o.mn], .str p] (.tup [.p (.agg [.str c.name, .int .i64 c.ht, .sl 1 (c.route.map .str), .int .i64 c.mn]), .p (.bool true)]) ∧ c.route.getD 0 [] = p ∧ 0 < c.route.length ∧ o.route.length = x.route.length + 1 ∧
      Okv Try.prog 28 [.agg [.str o.name, .int .i64 o.ht, .sl 1 (o.route.map .str), .int .i64 o.mn], .agg [.str x.name, .int .i64 x.ht, .sl 1 (x.route.map .str), .int .i64 x.mn]] (.tup [.p (.sl 1 (L.map .str)), .p (.bool true)]) ∧ 0 < L.length) := by
  have hf := in_fits hx
  refine ⟨(viaS x p i).getD default, (viaS x p i).isSome, pl_out (k_iVia x p i hf (by omega)), pl_out (k_sVia x p i hf (by omega)), k_rStrip _ (getD_fits fun t h => (via_ok h).2.1).2.1, fun h => ?_⟩
  cases hv : viaS x p i with
  | none => rw [hv] at h; cases h
  | some u =>
    obtain ⟨h1, h2, h3, h4⟩ := via_ok hv
    obtain ⟨c, g1, g2, g3⟩ := via_cut hv
    obtain ⟨m1, m2⟩ := via_common hv
    have hu := nm_small h2
    have c1 := pl_out (k_iCutRoute u p hu (by omega))
    rw [g1] at c1
    have c2 := pl_txt (k_iCommon u x hu hf)
    rw [m1] at c2
    exact ⟨c, _, c1, g2, g3, by rw [Option.getD_some, h3, viaR_len (by omega)], c2, m2⟩
theorem part4 (x : Stp) (p : Txt) (hx : StIn x) (hp : p.length ≤ 1000) : ∃ (o : Stp) (ob : Bool), Okv Try.prog 24 [.agg [.str x.name, .int .i64 x.ht, .sl 1 (x.route.map .str), .int .i64 x.mn], .str p] (.tup [.p (.agg [.str o.name, .int .i64 o.ht, .sl 1 (o.route.map .str), .int .i64 o.mn]), .p (.bool ob)]) ∧ Okv Try.prog 23 [.agg [.str x.name, .int .i64 x.ht, .sl 1 (x.route.map .str), .int .i64 x.mn], .str p] (.tup [.p (.agg [.str o.name, .int .i64 o.ht, .sl 1 (o.route.map .str), .int .i64 o.mn]), .p (.bool ob)]) ∧ Okv Try.prog 51 [.agg [.str o.name, .int .i64 o.ht, .sl 1 (o.route.map .str), .int .i64 o.mn], .agg [.str o.name, .int .i64 o.ht, .sl 1 (o.route.map .str), .int .i64 o.mn]] (.p (.bool true)) := by
  have hf := in_fits hx
  refine ⟨(cutS x p).getD default, (cutS x p).isSome, pl_out (k_iCutRoute x p hf (by omega)), pl_out (k_sCutRoute x p hf (by omega)), k_rStrip _ ?_⟩
  cases h : cutS x p with
  | none => decide
  | some t =>
    have := cut_ok h
    have := hf.2.1
    rw [Option.getD_some]
    omega
theorem part5 (x : Stp) (n : Int) (hx : StIn x) : ∃ (o : Stp) (ob : Bool), Okv Try.prog 26 [.agg [.str x.name, .int .i64 x.ht, .sl 1 (x.route.map .str), .int .i64 x.mn], .int .i64 n] (.tup [.p (.agg [.str o.name, .int .i64 o.ht, .sl 1 (o.route.map .str), .int .i64 o.mn]), .p (.bool ob)]) ∧ Okv Try.prog 25 [.agg [.str x.name, .int .i64 x.ht, .sl 1 (x.route.map .str), .int .i64 x.mn], .int .i64 n] (.tup [.p (.agg [.str o.name, .int .i64 o.ht, .sl 1 (o.route.map .str), .int .i64 o.mn]), .p (.bool ob)]) ∧ Okv Try.prog 51 [.agg [.str o.name, .int .i64 o.ht, .sl 1 (o.route.map .str), .int .i64 o.mn], .agg [.str o.name, .int .i64 o.ht, .sl 1 (o.route.map .str), .int .i64 o.mn]] (.p (.bool true)) ∧
    Okv Try.prog 51 [.agg [.str x.name, .int .i64 x.ht, .sl 1 (x.route.map .str), .int .i64 x.mn], .agg [.str x.name, .int .i64 x.ht, .sl 1 (x.route.map .str), .int .i64 x.mn]] (.p (.bool true)) ∧ (ob = true → Okv Try.prog 26 [.agg [.str o.name, .int .i64 o.ht, .sl 1 (o.route.map .str), .int .i64 o.mn], .int .i64 (0 - n)] (.tup [.p (.agg [.str x.name, .int .i64 x.ht, .sl 1 (x.route.map .str), .int .i64 x.mn]), .p (.bool true)])) := by
  have hf := in_fits hx
  refine ⟨(delS x n).getD default, (delS x n).isSome, pl_out (k_iDelay x n hf), pl_out (k_sDelay x n hf), k_rStrip _ (getD_fits fun t h => del_ok h).2.1, k_rStrip x hf.2.1, fun h => ?_⟩
  cases hv : delS x n with
  | none => rw [hv] at h; cases h
  | some l =>
    have c1 := pl_out (k_iDelay l (-n) (nm_small (del_ok hv)))
    rw [del_back hv, ← Int.zero_sub n] at c1
    exact c1
set_option maxRecDepth 100000 in
set_option maxHeartbeats 16000000 in
/-- laws.FnStrips -/
theorem k_FnStrips (code : List UInt8) (_ : code.length ≤ 9223372036854775807) : Okv Try.prog 13 [codeP code] (.p (.bool true)) := by
  refine ok_D hmix c_laws_FnStrips (by simp) ?_
  have hbig := k_rBig code
  by_cases hc : code.length > 65536
  · rw [decide_eq_true hc] at hbig
    simp only [envOf, envFrom, go_sem, reduceIte, Nat.reduceEqDiff]
    repeat' (first
      | (simp only [go_sem, reduceIte, Nat.reduceEqDiff])
      | (simp (disch := omega) only [w64, w8, bytesOf_cons, tmod10, tdiv10, tn48, nsub1, nadd1, nsub, nadd, nmul, List.take_length, Int.toNat_zero, Int.reduceAdd, Int.reduceSub, Int.reduceToNat, Int.reduceMul, Nat.sub_zero, Nat.min_self])
      | (refine Rm_need (by first | exact True.intro | omega | (simp; omega)) ?_)
      | (refine Rm_w rfl (hbig) (by trivial) ?_)
      | (refine Rm_w ?_ (hbig) (by trivial) ?_; · (simp [viewOfs, viewOf, List.take_of_length_le, cutL]; done))
      | (refine Rm_gi (by first | omega | (simp; omega)) ?_)
      | (refine Rm_gb (by first | omega | (simp; omega)) ?_)
      | (refine Rm_ga (by first | omega | (simp; omega)) _ rfl (Nat.le_of_ble_eq_true rfl) ?_)
      | (refine Rm_gm (by first | omega | (simp; omega)) _ rfl ?_)
      | (refine Rm_part _ _ rfl rfl ?_)
      | (refine Rm_puti (by first | omega | (simp; omega)) rfl ?_)
      | (refine Dm_draw [] (by simp) ?_)
      | (refine Tm_both ?_ ?_)
      | (refine Tm_fin (by simp only [hideOK, newsE]; simp []) ?_)
      | (refine Cm_split (fun h => ?_) (fun h => ?_) <;> (try (simp only [decide_eq_true_eq, decide_eq_false_iff_not, bne_iff_ne, beq_iff_eq, bne_eq_false_iff_eq, beq_eq_false_iff_ne, Bool.not_eq_true, Bool.not_eq_true', Bool.not_eq_false, Bool.not_eq_false', ne_eq, Bool.and_eq_true, Bool.or_eq_true, true_eq_decide_iff, false_eq_decide_iff] at h)) <;> (try omega))
      | (refine Gm_split (fun h => ?_) (fun h => ?_) <;> (try simp only [ne_eq, Bool.not_eq_true, Bool.not_eq_false] at h) <;> (try rw [h]) <;> (try (simp only [decide_eq_true_eq, decide_eq_false_iff_not, bne_iff_ne, beq_iff_eq, bne_eq_false_iff_eq, beq_eq_false_iff_ne, Bool.not_eq_true, Bool.not_eq_true', Bool.not_eq_false, Bool.not_eq_false', ne_eq, Bool.and_eq_true, Bool.or_eq_true, true_eq_decide_iff, false_eq_decide_iff] at h)) <;> (try omega))
      | (refine Sm_split (fun h => ?_) (fun h => ?_) <;> (try (simp only [decide_eq_true_eq, decide_eq_false_iff_not, bne_iff_ne, beq_iff_eq, bne_eq_false_iff_eq, beq_eq_false_iff_ne, Bool.not_eq_true, Bool.not_eq_true', Bool.not_eq_false, Bool.not_eq_false', ne_eq, Bool.and_eq_true, Bool.or_eq_true, true_eq_decide_iff, false_eq_decide_iff] at h)) <;> (try omega))
      | (exact ret_p rfl ⟨rfl, rfl⟩)
      | (refine ret_okv (by first | trivial | simp only [go_sem, detD, detDs, detP, and_self, and_true]) ?_)
      | (exact ret_gen _ _ _ rfl rfl rfl ⟨rfl, rfl⟩)
      | (simp only [Option.some.injEq, DV.tup.injEq, DV.p.injEq, List.cons.injEq, PV.int.injEq, PV.bool.injEq, PV.str.injEq, and_true, true_and])
      | rfl
      | (refine Bool.eq_iff_iff.2 ?_; simp only [decide_eq_true_eq, Bool.and_eq_true, Bool.or_eq_true, Bool.not_eq_true', decide_eq_false_iff_not, Bool.false_eq_true, beq_iff_eq, bne_iff_ne, ne_eq, false_iff, iff_false, true_iff, iff_true]; omega)
      | omega)
  · rw [decide_eq_false hc] at hbig
    have hc : code.length ≤ 65536 := by omega
    have d1 := k_DrawStripText code hc
    have d2 := k_DrawParseStrip code hc
    have d3 := k_DrawViaPoint code hc
    have d4 := k_DrawCutRoute code hc
    have d5 := k_DrawDelayStrip code hc
    simp only [envOf, envFrom, go_sem, reduceIte, Nat.reduceEqDiff]
    repeat' (first
      | (simp only [go_sem, reduceIte, Nat.reduceEqDiff])
      | (simp (disch := omega) only [w64, w8, bytesOf_cons, tmod10, tdiv10, tn48, nsub1, nadd1, nsub, nadd, nmul, List.take_length, Int.toNat_zero, Int.reduceAdd, Int.reduceSub, Int.reduceToNat, Int.reduceMul, Nat.sub_zero, Nat.min_self])
      | (refine Rm_need (by first | exact True.intro | omega | (simp; omega)) ?_)
      | (refine Rm_w rfl (hbig) (by trivial) ?_)
      | (refine Rm_w ?_ (hbig) (by trivial) ?_; · (simp [viewOfs, viewOf, List.take_of_length_le, cutL]; done))
      | (refine Rm_gi (by first | omega | (simp; omega)) ?_)
      | (refine Rm_gb (by first | omega | (simp; omega)) ?_)
      | (refine Rm_ga (by first | omega | (simp; omega)) _ rfl (Nat.le_of_ble_eq_true rfl) ?_)
      | (refine Rm_gm (by first | omega | (simp; omega)) _ rfl ?_)
      | (refine Rm_part _ _ rfl rfl ?_)
      | (refine Rm_puti (by first | omega | (simp; omega)) rfl ?_)
      | (refine Dm_draw [] (by simp) ?_)
      | (refine Tm_both ?_ ?_)
      | (refine Tm_fin (by simp only [hideOK, newsE]; simp []) ?_)
      | (refine Cm_split (fun h => ?_) (fun h => ?_) <;> (try (simp only [decide_eq_true_eq, decide_eq_false_iff_not, bne_iff_ne, beq_iff_eq, bne_eq_false_iff_eq, beq_eq_false_iff_ne, Bool.not_eq_true, Bool.not_eq_true', Bool.not_eq_false, Bool.not_eq_false', ne_eq, Bool.and_eq_true, Bool.or_eq_true, true_eq_decide_iff, false_eq_decide_iff] at h)) <;> (try omega))
      | (refine Gm_split (fun h => ?_) (fun h => ?_) <;> (try simp only [ne_eq, Bool.not_eq_true, Bool.not_eq_false] at h) <;> (try rw [h]) <;> (try (simp only [decide_eq_true_eq, decide_eq_false_iff_not, bne_iff_ne, beq_iff_eq, bne_eq_false_iff_eq, beq_eq_false_iff_ne, Bool.not_eq_true, Bool.not_eq_true', Bool.not_eq_false, Bool.not_eq_false', ne_eq, Bool.and_eq_true, Bool.or_eq_true, true_eq_decide_iff, false_eq_decide_iff] at h)) <;> (try omega))
      | (refine Sm_split (fun h => ?_) (fun h => ?_) <;> (try (simp only [decide_eq_true_eq, decide_eq_false_iff_not, bne_iff_ne, beq_iff_eq, bne_eq_false_iff_eq, beq_eq_false_iff_ne, Bool.not_eq_true, Bool.not_eq_true', Bool.not_eq_false, Bool.not_eq_false', ne_eq, Bool.and_eq_true, Bool.or_eq_true, true_eq_decide_iff, false_eq_decide_iff] at h)) <;> (try omega))
      | (exact ret_p rfl ⟨rfl, rfl⟩)
      | (refine ret_okv (by first | trivial | simp only [go_sem, detD, detDs, detP, and_self, and_true]) ?_)
      | (exact ret_gen _ _ _ rfl rfl rfl ⟨rfl, rfl⟩)
      | (simp only [Option.some.injEq, DV.tup.injEq, DV.p.injEq, List.cons.injEq, PV.int.injEq, PV.bool.injEq, PV.str.injEq, and_true, true_and])
      | rfl
      | (refine Bool.eq_iff_iff.2 ?_; simp only [decide_eq_true_eq, Bool.and_eq_true, Bool.or_eq_true, Bool.not_eq_true', decide_eq_false_iff_not, Bool.false_eq_true, beq_iff_eq, bne_iff_ne, ne_eq, false_iff, iff_false, true_iff, iff_true]; omega)
      | omega)
    refine Rm_o d1 rfl (fun r H2 hh => ?_)
    obtain ⟨x, rfl, hx, rfl⟩ := hh
    obtain ⟨t, b, o, ob, e1, e2, e3, e4, e5, e6⟩ := part1 x hx
    clear d1 hx hbig
    cases b
    all_goals try obtain ⟨rfl, rfl⟩ := e5 rfl
    all_goals
      repeat' (first
        | (simp only [go_sem, reduceIte, Nat.reduceEqDiff, Nat.reduceBEq, Nat.reduceAdd, Nat.reduceLeDiff])
        | (simp (disch := omega) only [w64, w8, bytesOf_cons, tmod10, tdiv10, tn48, nsub1, nadd1, nsub, nadd, nmul, List.take_length, Int.toNat_zero, Int.reduceAdd, Int.reduceSub, Int.reduceToNat, Int.reduceMul, Nat.sub_zero, Nat.min_self])
        | (refine Rm_need (by first | exact True.intro | omega | (simp; omega)) ?_)
        | (refine Rm_w rfl (e1) (by trivial) ?_)
        | (refine Rm_w ?_ (e1) (by trivial) ?_; · (simp [viewOfs, viewOf, List.take_of_length_le, cutL]; done))
        | (refine Rm_w rfl (e2) (by trivial) ?_)
        | (refine Rm_w ?_ (e2) (by trivial) ?_; · (simp [viewOfs, viewOf, List.take_of_length_le, cutL]; done))
        | (refine Rm_w rfl (e3) (by trivial) ?_)
        | (refine Rm_w ?_ (e3) (by trivial) ?_; · (simp [viewOfs, viewOf, List.take_of_length_le, cutL]; done))
        | (refine Rm_o e4 rfl (fun r H2 hh => ?_); obtain ⟨rfl, rfl⟩ := hh)
        | (refine Rm_w rfl (e6) (by trivial) ?_)
        | (refine Rm_w ?_ (e6) (by trivial) ?_; · (simp [viewOfs, viewOf, List.take_of_length_le, cutL]; done))
        | (refine Rm_gi (by first | omega | (simp; omega)) ?_)
        | (refine Rm_gb (by first | omega | (simp; omega)) ?_)
        | (refine Rm_ga (by first | omega | (simp; omega)) _ rfl (Nat.le_of_ble_eq_true rfl) ?_)
        | (refine Rm_gm (by first | omega | (simp; omega)) _ rfl ?_)
        | (refine Rm_part _ _ rfl rfl ?_)
        | (refine Rm_puti (by first | omega | (simp; omega)) rfl ?_)
        | (refine Dm_draw [] (by simp) ?_)
        | (refine Tm_both ?_ ?_)
        | (refine Tm_fin (by simp only [hideOK, newsE]; simp []) ?_)
        | (refine Cm_split (fun h => ?_) (fun h => ?_) <;> (try (simp only [decide_eq_true_eq, decide_eq_false_iff_not, bne_iff_ne, beq_iff_eq, bne_eq_false_iff_eq, beq_eq_false_iff_ne, Bool.not_eq_true, Bool.not_eq_true', Bool.not_eq_false, Bool.not_eq_false', ne_eq, Bool.and_eq_true, Bool.or_eq_true, true_eq_decide_iff, false_eq_decide_iff] at h)) <;> (try omega))
        | (refine Gm_split (fun h => ?_) (fun h => ?_) <;> (try simp only [ne_eq, Bool.not_eq_true, Bool.not_eq_false] at h) <;> (try rw [h]) <;> (try (simp only [decide_eq_true_eq, decide_eq_false_iff_not, bne_iff_ne, beq_iff_eq, bne_eq_false_iff_eq, beq_eq_false_iff_ne, Bool.not_eq_true, Bool.not_eq_true', Bool.not_eq_false, Bool.not_eq_false', ne_eq, Bool.and_eq_true, Bool.or_eq_true, true_eq_decide_iff, false_eq_decide_iff] at h)) <;> (try omega))
        | (refine Sm_split (fun h => ?_) (fun h => ?_) <;> (try (simp only [decide_eq_true_eq, decide_eq_false_iff_not, bne_iff_ne, beq_iff_eq, bne_eq_false_iff_eq, beq_eq_false_iff_ne, Bool.not_eq_true, Bool.not_eq_true', Bool.not_eq_false, Bool.not_eq_false', ne_eq, Bool.and_eq_true, Bool.or_eq_true, true_eq_decide_iff, false_eq_decide_iff] at h)) <;> (try omega))
        | (exact ret_p rfl ⟨rfl, rfl⟩)
        | (refine ret_okv (by first | trivial | simp only [go_sem, detD, detDs, detP, and_self, and_true]) ?_)
        | (exact ret_gen _ _ _ rfl rfl rfl ⟨rfl, rfl⟩)
        | (simp only [Option.some.injEq, DV.tup.injEq, DV.p.injEq, List.cons.injEq, PV.int.injEq, PV.bool.injEq, PV.str.injEq, and_true, true_and])
        | rfl
        | (refine Bool.eq_iff_iff.2 ?_; simp only [decide_eq_true_eq, Bool.and_eq_true, Bool.or_eq_true, Bool.not_eq_true', decide_eq_false_iff_not, Bool.false_eq_true, beq_iff_eq, bne_iff_ne, ne_eq, false_iff, iff_false, true_iff, iff_true]; omega)
        | omega)
    all_goals
      refine Rm_o d2 rfl (fun r H2 hh => ?_)
      obtain ⟨t2, rfl, ht2, rfl⟩ := hh
      obtain ⟨o2, ob2, m1, m2, m3⟩ := part2 t2 ht2
      clear d2 ht2 e1 e2 e3 e4 e5 e6
      repeat' (first
        | (simp only [go_sem, reduceIte, Nat.reduceEqDiff, Nat.reduceBEq, Nat.reduceAdd, Nat.reduceLeDiff])
        | (simp (disch := omega) only [w64, w8, bytesOf_cons, tmod10, tdiv10, tn48, nsub1, nadd1, nsub, nadd, nmul, List.take_length, Int.toNat_zero, Int.reduceAdd, Int.reduceSub, Int.reduceToNat, Int.reduceMul, Nat.sub_zero, Nat.min_self])
        | (refine Rm_need (by first | exact True.intro | omega | (simp; omega)) ?_)
        | (refine Rm_o m1 rfl (fun r H2 hh => ?_); obtain ⟨rfl, rfl⟩ := hh)
        | (refine Rm_o m2 rfl (fun r H2 hh => ?_); obtain ⟨rfl, rfl⟩ := hh)
        | (refine Rm_w rfl (m3) (by trivial) ?_)
        | (refine Rm_w ?_ (m3) (by trivial) ?_; · (simp [viewOfs, viewOf, List.take_of_length_le, cutL]; done))
        | (refine Rm_gi (by first | omega | (simp; omega)) ?_)
        | (refine Rm_gb (by first | omega | (simp; omega)) ?_)
        | (refine Rm_ga (by first | omega | (simp; omega)) _ rfl (Nat.le_of_ble_eq_true rfl) ?_)
        | (refine Rm_gm (by first | omega | (simp; omega)) _ rfl ?_)
        | (refine Rm_part _ _ rfl rfl ?_)
        | (refine Rm_puti (by first | omega | (simp; omega)) rfl ?_)
        | (refine Dm_draw [] (by simp) ?_)
        | (refine Tm_both ?_ ?_)
        | (refine Tm_fin (by simp only [hideOK, newsE]; simp []) ?_)
        | (refine Cm_split (fun h => ?_) (fun h => ?_) <;> (try (simp only [decide_eq_true_eq, decide_eq_false_iff_not, bne_iff_ne, beq_iff_eq, bne_eq_false_iff_eq, beq_eq_false_iff_ne, Bool.not_eq_true, Bool.not_eq_true', Bool.not_eq_false, Bool.not_eq_false', ne_eq, Bool.and_eq_true, Bool.or_eq_true, true_eq_decide_iff, false_eq_decide_iff] at h)) <;> (try omega))
        | (refine Gm_split (fun h => ?_) (fun h => ?_) <;> (try simp only [ne_eq, Bool.not_eq_true, Bool.not_eq_false] at h) <;> (try rw [h]) <;> (try (simp only [decide_eq_true_eq, decide_eq_false_iff_not, bne_iff_ne, beq_iff_eq, bne_eq_false_iff_eq, beq_eq_false_iff_ne, Bool.not_eq_true, Bool.not_eq_true', Bool.not_eq_false, Bool.not_eq_false', ne_eq, Bool.and_eq_true, Bool.or_eq_true, true_eq_decide_iff, false_eq_decide_iff] at h)) <;> (try omega))
        | (refine Sm_split (fun h => ?_) (fun h => ?_) <;> (try (simp only [decide_eq_true_eq, decide_eq_false_iff_not, bne_iff_ne, beq_iff_eq, bne_eq_false_iff_eq, beq_eq_false_iff_ne, Bool.not_eq_true, Bool.not_eq_true', Bool.not_eq_false, Bool.not_eq_false', ne_eq, Bool.and_eq_true, Bool.or_eq_true, true_eq_decide_iff, false_eq_decide_iff] at h)) <;> (try omega))
        | (exact ret_p rfl ⟨rfl, rfl⟩)
        | (refine ret_okv (by first | trivial | simp only [go_sem, detD, detDs, detP, and_self, and_true]) ?_)
        | (exact ret_gen _ _ _ rfl rfl rfl ⟨rfl, rfl⟩)
        | (simp only [Option.some.injEq, DV.tup.injEq, DV.p.injEq, List.cons.injEq, PV.int.injEq, PV.bool.injEq, PV.str.injEq, and_true, true_and])
        | rfl
        | (refine Bool.eq_iff_iff.2 ?_; simp only [decide_eq_true_eq, Bool.and_eq_true, Bool.or_eq_true, Bool.not_eq_true', decide_eq_false_iff_not, Bool.false_eq_true, beq_iff_eq, bne_iff_ne, ne_eq, false_iff, iff_false, true_iff, iff_true]; omega)
        | omega)
    all_goals
      refine Rm_o d3 rfl (fun r H2 hh => ?_)
      obtain ⟨x3, p3, i3, rfl, hx3, hp3, hi3, rfl⟩ := hh
      obtain ⟨o3, ob3, u1, u2, u3, u4⟩ := part3 x3 p3 i3 hx3 hp3
      have hl3 := hx3.2.2.2.1
      clear d3 hx3 m1 m2 m3
      cases ob3
      · clear u4
        repeat' (first
          | (simp only [go_sem, reduceIte, Nat.reduceEqDiff, Nat.reduceBEq, Nat.reduceAdd, Nat.reduceLeDiff])
          | (simp (disch := omega) only [w64, w8, bytesOf_cons, tmod10, tdiv10, tn48, nsub1, nadd1, nsub, nadd, nmul, List.take_length, Int.toNat_zero, Int.reduceAdd, Int.reduceSub, Int.reduceToNat, Int.reduceMul, Nat.sub_zero, Nat.min_self])
          | (refine Rm_need (by first | exact True.intro | omega | (simp; omega)) ?_)
          | (refine Rm_o u1 rfl (fun r H2 hh => ?_); obtain ⟨rfl, rfl⟩ := hh)
          | (refine Rm_o u2 rfl (fun r H2 hh => ?_); obtain ⟨rfl, rfl⟩ := hh)
          | (refine Rm_w rfl (u3) (by trivial) ?_)
          | (refine Rm_w ?_ (u3) (by trivial) ?_; · (simp [viewOfs, viewOf, List.take_of_length_le, cutL]; done))
          | (refine Rm_gi (by first | omega | (simp; omega)) ?_)
          | (refine Rm_gb (by first | omega | (simp; omega)) ?_)
          | (refine Rm_ga (by first | omega | (simp; omega)) _ rfl (Nat.le_of_ble_eq_true rfl) ?_)
          | (refine Rm_gm (by first | omega | (simp; omega)) _ rfl ?_)
          | (refine Rm_part _ _ rfl rfl ?_)
          | (refine Rm_puti (by first | omega | (simp; omega)) rfl ?_)
          | (refine Dm_draw [] (by simp) ?_)
          | (refine Tm_both ?_ ?_)
          | (refine Tm_fin (by simp only [hideOK, newsE]; simp []) ?_)
          | (refine Cm_split (fun h => ?_) (fun h => ?_) <;> (try (simp only [decide_eq_true_eq, decide_eq_false_iff_not, bne_iff_ne, beq_iff_eq, bne_eq_false_iff_eq, beq_eq_false_iff_ne, Bool.not_eq_true, Bool.not_eq_true', Bool.not_eq_false, Bool.not_eq_false', ne_eq, Bool.and_eq_true, Bool.or_eq_true, true_eq_decide_iff, false_eq_decide_iff] at h)) <;> (try omega))
          | (refine Gm_split (fun h => ?_) (fun h => ?_) <;> (try simp only [ne_eq, Bool.not_eq_true, Bool.not_eq_false] at h) <;> (try rw [h]) <;> (try (simp only [decide_eq_true_eq, decide_eq_false_iff_not, bne_iff_ne, beq_iff_eq, bne_eq_false_iff_eq, beq_eq_false_iff_ne, Bool.not_eq_true, Bool.not_eq_true', Bool.not_eq_false, Bool.not_eq_false', ne_eq, Bool.and_eq_true, Bool.or_eq_true, true_eq_decide_iff, false_eq_decide_iff] at h)) <;> (try omega))
          | (refine Sm_split (fun h => ?_) (fun h => ?_) <;> (try (simp only [decide_eq_true_eq, decide_eq_false_iff_not, bne_iff_ne, beq_iff_eq, bne_eq_false_iff_eq, beq_eq_false_iff_ne, Bool.not_eq_true, Bool.not_eq_true', Bool.not_eq_false, Bool.not_eq_false', ne_eq, Bool.and_eq_true, Bool.or_eq_true, true_eq_decide_iff, false_eq_decide_iff] at h)) <;> (try omega))
          | (exact ret_p rfl ⟨rfl, rfl⟩)
          | (refine ret_okv (by first | trivial | simp only [go_sem, detD, detDs, detP, and_self, and_true]) ?_)
          | (exact ret_gen _ _ _ rfl rfl rfl ⟨rfl, rfl⟩)
          | (simp only [Option.some.injEq, DV.tup.injEq, DV.p.injEq, List.cons.injEq, PV.int.injEq, PV.bool.injEq, PV.str.injEq, and_true, true_and])
          | rfl
          | (refine Bool.eq_iff_iff.2 ?_; simp only [decide_eq_true_eq, Bool.and_eq_true, Bool.or_eq_true, Bool.not_eq_true', decide_eq_false_iff_not, Bool.false_eq_true, beq_iff_eq, bne_iff_ne, ne_eq, false_iff, iff_false, true_iff, iff_true]; omega)
          | omega)
        refine Rm_o d4 rfl (fun r H2 hh => ?_)
        obtain ⟨x4, p4, rfl, hx4, hp4, rfl⟩ := hh
        obtain ⟨o4, ob4, y1, y2, y3⟩ := part4 x4 p4 hx4 hp4
        clear d4 hx4 u1 u2 u3
        repeat' (first
          | (simp only [go_sem, reduceIte, Nat.reduceEqDiff, Nat.reduceBEq, Nat.reduceAdd, Nat.reduceLeDiff])
          | (simp (disch := omega) only [w64, w8, bytesOf_cons, tmod10, tdiv10, tn48, nsub1, nadd1, nsub, nadd, nmul, List.take_length, Int.toNat_zero, Int.reduceAdd, Int.reduceSub, Int.reduceToNat, Int.reduceMul, Nat.sub_zero, Nat.min_self])
          | (refine Rm_need (by first | exact True.intro | omega | (simp; omega)) ?_)
          | (refine Rm_o y1 rfl (fun r H2 hh => ?_); obtain ⟨rfl, rfl⟩ := hh)
          | (refine Rm_o y2 rfl (fun r H2 hh => ?_); obtain ⟨rfl, rfl⟩ := hh)
          | (refine Rm_w rfl (y3) (by trivial) ?_)
          | (refine Rm_w ?_ (y3) (by trivial) ?_; · (simp [viewOfs, viewOf, List.take_of_length_le, cutL]; done))
          | (refine Rm_gi (by first | omega | (simp; omega)) ?_)
          | (refine Rm_gb (by first | omega | (simp; omega)) ?_)
          | (refine Rm_ga (by first | omega | (simp; omega)) _ rfl (Nat.le_of_ble_eq_true rfl) ?_)
          | (refine Rm_gm (by first | omega | (simp; omega)) _ rfl ?_)
          | (refine Rm_part _ _ rfl rfl ?_)
          | (refine Rm_puti (by first | omega | (simp; omega)) rfl ?_)
          | (refine Dm_draw [] (by simp) ?_)
          | (refine Tm_both ?_ ?_)
          | (refine Tm_fin (by simp only [hideOK, newsE]; simp []) ?_)
          | (refine Cm_split (fun h => ?_) (fun h => ?_) <;> (try (simp only [decide_eq_true_eq, decide_eq_false_iff_not, bne_iff_ne, beq_iff_eq, bne_eq_false_iff_eq, beq_eq_false_iff_ne, Bool.not_eq_true, Bool.not_eq_true', Bool.not_eq_false, Bool.not_eq_false', ne_eq, Bool.and_eq_true, Bool.or_eq_true, true_eq_decide_iff, false_eq_decide_iff] at h)) <;> (try omega))
          | (refine Gm_split (fun h => ?_) (fun h => ?_) <;> (try simp only [ne_eq, Bool.not_eq_true, Bool.not_eq_false] at h) <;> (try rw [h]) <;> (try (simp only [decide_eq_true_eq, decide_eq_false_iff_not, bne_iff_ne, beq_iff_eq, bne_eq_false_iff_eq, beq_eq_false_iff_ne, Bool.not_eq_true, Bool.not_eq_true', Bool.not_eq_false, Bool.not_eq_false', ne_eq, Bool.and_eq_true, Bool.or_eq_true, true_eq_decide_iff, false_eq_decide_iff] at h)) <;> (try omega))
          | (refine Sm_split (fun h => ?_) (fun h => ?_) <;> (try (simp only [decide_eq_true_eq, decide_eq_false_iff_not, bne_iff_ne, beq_iff_eq, bne_eq_false_iff_eq, beq_eq_false_iff_ne, Bool.not_eq_true, Bool.not_eq_true', Bool.not_eq_false, Bool.not_eq_false', ne_eq, Bool.and_eq_true, Bool.or_eq_true, true_eq_decide_iff, false_eq_decide_iff] at h)) <;> (try omega))
          | (exact ret_p rfl ⟨rfl, rfl⟩)
          | (refine ret_okv (by first | trivial | simp only [go_sem, detD, detDs, detP, and_self, and_true]) ?_)
          | (exact ret_gen _ _ _ rfl rfl rfl ⟨rfl, rfl⟩)
          | (simp only [Option.some.injEq, DV.tup.injEq, DV.p.injEq, List.cons.injEq, PV.int.injEq, PV.bool.injEq, PV.str.injEq, and_true, true_and])
          | rfl
          | (refine Bool.eq_iff_iff.2 ?_; simp only [decide_eq_true_eq, Bool.and_eq_true, Bool.or_eq_true, Bool.not_eq_true', decide_eq_false_iff_not, Bool.false_eq_true, beq_iff_eq, bne_iff_ne, ne_eq, false_iff, iff_false, true_iff, iff_true]; omega)
          | omega)
        refine Rm_o d5 rfl (fun r H2 hh => ?_)
        obtain ⟨x5, n5, rfl, hx5, hn5, rfl⟩ := hh
        obtain ⟨o5, ob5, z1, z2, z3, z4, z5⟩ := part5 x5 n5 hx5
        clear d5 hx5 y1 y2 y3
        cases ob5
        · clear z5
          repeat' (first
            | (simp only [go_sem, reduceIte, Nat.reduceEqDiff, Nat.reduceBEq, Nat.reduceAdd, Nat.reduceLeDiff])
            | (simp (disch := omega) only [w64, w8, bytesOf_cons, tmod10, tdiv10, tn48, nsub1, nadd1, nsub, nadd, nmul, List.take_length, Int.toNat_zero, Int.reduceAdd, Int.reduceSub, Int.reduceToNat, Int.reduceMul, Nat.sub_zero, Nat.min_self])
            | (refine Rm_need (by first | exact True.intro | omega | (simp; omega)) ?_)
            | (refine Rm_o z1 rfl (fun r H2 hh => ?_); obtain ⟨rfl, rfl⟩ := hh)
            | (refine Rm_o z2 rfl (fun r H2 hh => ?_); obtain ⟨rfl, rfl⟩ := hh)
            | (refine Rm_w rfl (z3) (by trivial) ?_)
            | (refine Rm_w ?_ (z3) (by trivial) ?_; · (simp [viewOfs, viewOf, List.take_of_length_le, cutL]; done))
            | (refine Rm_gi (by first | omega | (simp; omega)) ?_)
            | (refine Rm_gb (by first | omega | (simp; omega)) ?_)
            | (refine Rm_ga (by first | omega | (simp; omega)) _ rfl (Nat.le_of_ble_eq_true rfl) ?_)
            | (refine Rm_gm (by first | omega | (simp; omega)) _ rfl ?_)
            | (refine Rm_part _ _ rfl rfl ?_)
            | (refine Rm_puti (by first | omega | (simp; omega)) rfl ?_)
            | (refine Dm_draw [] (by simp) ?_)
            | (refine Tm_both ?_ ?_)
            | (refine Tm_fin (by simp only [hideOK, newsE]; simp []) ?_)
            | (refine Cm_split (fun h => ?_) (fun h => ?_) <;> (try (simp only [decide_eq_true_eq, decide_eq_false_iff_not, bne_iff_ne, beq_iff_eq, bne_eq_false_iff_eq, beq_eq_false_iff_ne, Bool.not_eq_true, Bool.not_eq_true', Bool.not_eq_false, Bool.not_eq_false', ne_eq, Bool.and_eq_true, Bool.or_eq_true, true_eq_decide_iff, false_eq_decide_iff] at h)) <;> (try omega))
            | (refine Gm_split (fun h => ?_) (fun h => ?_) <;> (try simp only [ne_eq, Bool.not_eq_true, Bool.not_eq_false] at h) <;> (try rw [h]) <;> (try (simp only [decide_eq_true_eq, decide_eq_false_iff_not, bne_iff_ne, beq_iff_eq, bne_eq_false_iff_eq, beq_eq_false_iff_ne, Bool.not_eq_true, Bool.not_eq_true', Bool.not_eq_false, Bool.not_eq_false', ne_eq, Bool.and_eq_true, Bool.or_eq_true, true_eq_decide_iff, false_eq_decide_iff] at h)) <;> (try omega))
            | (refine Sm_split (fun h => ?_) (fun h => ?_) <;> (try (simp only [decide_eq_true_eq, decide_eq_false_iff_not, bne_iff_ne, beq_iff_eq, bne_eq_false_iff_eq, beq_eq_false_iff_ne, Bool.not_eq_true, Bool.not_eq_true', Bool.not_eq_false, Bool.not_eq_false', ne_eq, Bool.and_eq_true, Bool.or_eq_true, true_eq_decide_iff, false_eq_decide_iff] at h)) <;> (try omega))
            | (exact ret_p rfl ⟨rfl, rfl⟩)
            | (refine ret_okv (by first | trivial | simp only [go_sem, detD, detDs, detP, and_self, and_true]) ?_)
            | (exact ret_gen _ _ _ rfl rfl rfl ⟨rfl, rfl⟩)
            | (simp only [Option.some.injEq, DV.tup.injEq, DV.p.injEq, List.cons.injEq, PV.int.injEq, PV.bool.injEq, PV.str.injEq, and_true, true_and])
            | rfl
            | (refine Bool.eq_iff_iff.2 ?_; simp only [decide_eq_true_eq, Bool.and_eq_true, Bool.or_eq_true, Bool.not_eq_true', decide_eq_false_iff_not, Bool.false_eq_true, beq_iff_eq, bne_iff_ne, ne_eq, false_iff, iff_false, true_iff, iff_true]; omega)
            | omega)
        · have z5 := z5 rfl
          repeat' (first
            | (simp only [go_sem, reduceIte, Nat.reduceEqDiff, Nat.reduceBEq, Nat.reduceAdd, Nat.reduceLeDiff])
            | (simp (disch := omega) only [w64])
            | (refine Rm_need (by first | exact True.intro | omega | (simp; omega)) ?_)
            | (refine Rm_o z1 rfl (fun r H2 hh => ?_); obtain ⟨rfl, rfl⟩ := hh)
            | (refine Rm_o z2 rfl (fun r H2 hh => ?_); obtain ⟨rfl, rfl⟩ := hh)
            | (refine Rm_w rfl (z3) (by trivial) ?_)
            | (refine Rm_w ?_ (z3) (by trivial) ?_; · (simp [viewOfs, viewOf]; done))
            | (refine Rm_o z5 rfl (fun r H2 hh => ?_); obtain ⟨rfl, rfl⟩ := hh)
            | (refine Rm_w rfl (z4) (by trivial) ?_)
            | (refine Rm_w ?_ (z4) (by trivial) ?_; · (simp [viewOfs, viewOf, List.take_of_length_le, cutL]; done))
            | (refine Rm_gi (by first | omega | (simp; omega)) ?_)
            | (refine Rm_gb (by first | omega | (simp; omega)) ?_)
            | (refine Rm_ga (by first | omega | (simp; omega)) _ rfl (Nat.le_of_ble_eq_true rfl) ?_)
            | (refine Rm_gm (by first | omega | (simp; omega)) _ rfl ?_)
            | (refine Rm_part _ _ rfl rfl ?_)
            | (refine Rm_puti (by first | omega | (simp; omega)) rfl ?_)
            | (refine Dm_draw [] (by simp) ?_)
            | (refine Tm_both ?_ ?_)
            | (refine Tm_fin (by simp only [hideOK, newsE]; simp []) ?_)
            | (refine Cm_split (fun h => ?_) (fun h => ?_) <;> (try (simp only [decide_eq_true_eq, decide_eq_false_iff_not, bne_iff_ne, beq_iff_eq, bne_eq_false_iff_eq, beq_eq_false_iff_ne, Bool.not_eq_true, Bool.not_eq_true', Bool.not_eq_false, Bool.not_eq_false', ne_eq, Bool.and_eq_true, Bool.or_eq_true, true_eq_decide_iff, false_eq_decide_iff] at h)) <;> (try omega))
            | (refine Gm_split (fun h => ?_) (fun h => ?_) <;> (try simp only [ne_eq, Bool.not_eq_true, Bool.not_eq_false] at h) <;> (try rw [h]) <;> (try (simp only [decide_eq_true_eq, decide_eq_false_iff_not, bne_iff_ne, beq_iff_eq, bne_eq_false_iff_eq, beq_eq_false_iff_ne, Bool.not_eq_true, Bool.not_eq_true', Bool.not_eq_false, Bool.not_eq_false', ne_eq, Bool.and_eq_true, Bool.or_eq_true, true_eq_decide_iff, false_eq_decide_iff] at h)) <;> (try omega))
            | (refine Sm_split (fun h => ?_) (fun h => ?_) <;> (try (simp only [decide_eq_true_eq, decide_eq_false_iff_not, bne_iff_ne, beq_iff_eq, bne_eq_false_iff_eq, beq_eq_false_iff_ne, Bool.not_eq_true, Bool.not_eq_true', Bool.not_eq_false, Bool.not_eq_false', ne_eq, Bool.and_eq_true, Bool.or_eq_true, true_eq_decide_iff, false_eq_decide_iff] at h)) <;> (try omega))
            | (exact ret_p rfl ⟨rfl, rfl⟩)
            | (refine ret_okv (by first | trivial | simp only [go_sem, detD, detDs, detP, and_self, and_true]) ?_)
            | (exact ret_gen _ _ _ rfl rfl rfl ⟨rfl, rfl⟩)
            | (simp only [Option.some.injEq, DV.tup.injEq, DV.p.injEq, List.cons.injEq, PV.int.injEq, PV.bool.injEq, PV.str.injEq, and_true, true_and])
            | rfl
            | (refine Bool.eq_iff_iff.2 ?_; simp only [decide_eq_true_eq, Bool.and_eq_true, Bool.or_eq_true, Bool.not_eq_true', decide_eq_false_iff_not, Bool.false_eq_true, beq_iff_eq, bne_iff_ne, ne_eq, false_iff, iff_false, true_iff, iff_true]; omega)
            | omega)
      · obtain ⟨c3, L3, v1, v2, v3, v4, v5, v6⟩ := u4 rfl
        have hz3 : c3.route.getD 0 default = p3 := v2
        clear u4
        repeat' (first
          | (simp only [go_sem, reduceIte, Nat.reduceEqDiff, Nat.reduceBEq, Nat.reduceAdd, Nat.reduceLeDiff, Bool.false_eq_true])
          | (simp (disch := omega) only [w64, nadd1, Int.toNat_zero])
          | (refine Rm_need (by first | exact True.intro | omega | (simp; omega)) ?_)
          | (refine Rm_o u1 rfl (fun r H2 hh => ?_); obtain ⟨rfl, rfl⟩ := hh)
          | (refine Rm_o u2 rfl (fun r H2 hh => ?_); obtain ⟨rfl, rfl⟩ := hh)
          | (refine Rm_w rfl (u3) (by trivial) ?_)
          | (refine Rm_w ?_ (u3) (by trivial) ?_; · (simp [viewOfs, viewOf, List.take_of_length_le, cutL]; done))
          | (refine Rm_o v1 rfl (fun r H2 hh => ?_); obtain ⟨rfl, rfl⟩ := hh)
          | (refine Rm_o v5 rfl (fun r H2 hh => ?_); obtain ⟨rfl, rfl⟩ := hh)
          | (rw [hz3])
          | (rw [v4])
          | (refine Rm_gi (by first | omega | (simp; omega)) ?_)
          | (refine Rm_gb (by first | omega | (simp; omega)) ?_)
          | (refine Rm_ga (by first | omega | (simp; omega)) _ rfl (Nat.le_of_ble_eq_true rfl) ?_)
          | (refine Rm_gm (by first | omega | (simp; omega)) _ rfl ?_)
          | (refine Rm_part _ _ rfl rfl ?_)
          | (refine Rm_puti (by first | omega | (simp; omega)) rfl ?_)
          | (refine Dm_draw [] (by simp) ?_)
          | (refine Tm_both ?_ ?_)
          | (refine Tm_fin (by simp only [hideOK, newsE]; simp []) ?_)
          | (refine Cm_split (fun h => ?_) (fun h => ?_) <;> (try (simp only [beq_iff_eq, beq_eq_false_iff_ne, ne_eq] at h)) <;> (try omega))
          | (refine Gm_split (fun h => ?_) (fun h => ?_) <;> (try simp only [ne_eq, Bool.not_eq_true, Bool.not_eq_false] at h) <;> (try rw [h]) <;> (try (simp only [decide_eq_true_eq, decide_eq_false_iff_not, bne_iff_ne, beq_iff_eq, bne_eq_false_iff_eq, beq_eq_false_iff_ne, Bool.not_eq_true, Bool.not_eq_true', Bool.not_eq_false, Bool.not_eq_false', ne_eq, Bool.and_eq_true, Bool.or_eq_true, true_eq_decide_iff, false_eq_decide_iff] at h)) <;> (try omega))
          | (refine Sm_split (fun h => ?_) (fun h => ?_) <;> (try (simp only [decide_eq_true_eq, decide_eq_false_iff_not, bne_iff_ne, beq_iff_eq, bne_eq_false_iff_eq, beq_eq_false_iff_ne, Bool.not_eq_true, Bool.not_eq_true', Bool.not_eq_false, Bool.not_eq_false', ne_eq, Bool.and_eq_true, Bool.or_eq_true, true_eq_decide_iff, false_eq_decide_iff] at h)) <;> (try omega))
          | (exact ret_p rfl ⟨rfl, rfl⟩)
          | (refine ret_okv (by first | trivial | simp only [go_sem, detD, detDs, detP, and_self, and_true]) ?_)
          | (exact ret_gen _ _ _ rfl rfl rfl ⟨rfl, rfl⟩)
          | (simp only [Option.some.injEq, DV.tup.injEq, DV.p.injEq, List.cons.injEq, PV.int.injEq, PV.bool.injEq, PV.str.injEq, and_true, true_and])
          | rfl
          | (refine Bool.eq_iff_iff.2 ?_; simp only [decide_eq_true_eq, Bool.and_eq_true, Bool.or_eq_true, Bool.not_eq_true', decide_eq_false_iff_not, Bool.false_eq_true, beq_iff_eq, bne_iff_ne, ne_eq, false_iff, iff_false, true_iff, iff_true]; omega)
          | omega)
        refine Rm_o d4 rfl (fun r H2 hh => ?_)
        obtain ⟨x4, p4, rfl, hx4, hp4, rfl⟩ := hh
        obtain ⟨o4, ob4, y1, y2, y3⟩ := part4 x4 p4 hx4 hp4
        clear d4 hx4 u1 u2 u3 v1 v5 v2 v4 v6
        repeat' (first
          | (simp only [go_sem, reduceIte, Nat.reduceEqDiff, Nat.reduceBEq, Nat.reduceAdd, Nat.reduceLeDiff])
          | (simp (disch := omega) only [w64, w8, bytesOf_cons, tmod10, tdiv10, tn48, nsub1, nadd1, nsub, nadd, nmul, List.take_length, Int.toNat_zero, Int.reduceAdd, Int.reduceSub, Int.reduceToNat, Int.reduceMul, Nat.sub_zero, Nat.min_self])
          | (refine Rm_need (by first | exact True.intro | omega | (simp; omega)) ?_)
          | (refine Rm_o y1 rfl (fun r H2 hh => ?_); obtain ⟨rfl, rfl⟩ := hh)
          | (refine Rm_o y2 rfl (fun r H2 hh => ?_); obtain ⟨rfl, rfl⟩ := hh)
          | (refine Rm_w rfl (y3) (by trivial) ?_)
          | (refine Rm_w ?_ (y3) (by trivial) ?_; · (simp [viewOfs, viewOf, List.take_of_length_le, cutL]; done))
          | (refine Rm_gi (by first | omega | (simp; omega)) ?_)
          | (refine Rm_gb (by first | omega | (simp; omega)) ?_)
          | (refine Rm_ga (by first | omega | (simp; omega)) _ rfl (Nat.le_of_ble_eq_true rfl) ?_)
          | (refine Rm_gm (by first | omega | (simp; omega)) _ rfl ?_)
          | (refine Rm_part _ _ rfl rfl ?_)
          | (refine Rm_puti (by first | omega | (simp; omega)) rfl ?_)
          | (refine Dm_draw [] (by simp) ?_)
          | (refine Tm_both ?_ ?_)
          | (refine Tm_fin (by simp only [hideOK, newsE]; simp []) ?_)
          | (refine Cm_split (fun h => ?_) (fun h => ?_) <;> (try (simp only [decide_eq_true_eq, decide_eq_false_iff_not, bne_iff_ne, beq_iff_eq, bne_eq_false_iff_eq, beq_eq_false_iff_ne, Bool.not_eq_true, Bool.not_eq_true', Bool.not_eq_false, Bool.not_eq_false', ne_eq, Bool.and_eq_true, Bool.or_eq_true, true_eq_decide_iff, false_eq_decide_iff] at h)) <;> (try omega))
          | (refine Gm_split (fun h => ?_) (fun h => ?_) <;> (try simp only [ne_eq, Bool.not_eq_true, Bool.not_eq_false] at h) <;> (try rw [h]) <;> (try (simp only [decide_eq_true_eq, decide_eq_false_iff_not, bne_iff_ne, beq_iff_eq, bne_eq_false_iff_eq, beq_eq_false_iff_ne, Bool.not_eq_true, Bool.not_eq_true', Bool.not_eq_false, Bool.not_eq_false', ne_eq, Bool.and_eq_true, Bool.or_eq_true, true_eq_decide_iff, false_eq_decide_iff] at h)) <;> (try omega))
          | (refine Sm_split (fun h => ?_) (fun h => ?_) <;> (try (simp only [decide_eq_true_eq, decide_eq_false_iff_not, bne_iff_ne, beq_iff_eq, bne_eq_false_iff_eq, beq_eq_false_iff_ne, Bool.not_eq_true, Bool.not_eq_true', Bool.not_eq_false, Bool.not_eq_false', ne_eq, Bool.and_eq_true, Bool.or_eq_true, true_eq_decide_iff, false_eq_decide_iff] at h)) <;> (try omega))
          | (exact ret_p rfl ⟨rfl, rfl⟩)
          | (refine ret_okv (by first | trivial | simp only [go_sem, detD, detDs, detP, and_self, and_true]) ?_)
          | (exact ret_gen _ _ _ rfl rfl rfl ⟨rfl, rfl⟩)
          | (simp only [Option.some.injEq, DV.tup.injEq, DV.p.injEq, List.cons.injEq, PV.int.injEq, PV.bool.injEq, PV.str.injEq, and_true, true_and])
          | rfl
          | (refine Bool.eq_iff_iff.2 ?_; simp only [decide_eq_true_eq, Bool.and_eq_true, Bool.or_eq_true, Bool.not_eq_true', decide_eq_false_iff_not, Bool.false_eq_true, beq_iff_eq, bne_iff_ne, ne_eq, false_iff, iff_false, true_iff, iff_true]; omega)
          | omega)
        refine Rm_o d5 rfl (fun r H2 hh => ?_)
        obtain ⟨x5, n5, rfl, hx5, hn5, rfl⟩ := hh
        obtain ⟨o5, ob5, z1, z2, z3, z4, z5⟩ := part5 x5 n5 hx5
        clear d5 hx5 y1 y2 y3
        cases ob5
        · clear z5
          repeat' (first
            | (simp only [go_sem, reduceIte, Nat.reduceEqDiff, Nat.reduceBEq, Nat.reduceAdd, Nat.reduceLeDiff])
            | (simp (disch := omega) only [w64, w8, bytesOf_cons, tmod10, tdiv10, tn48, nsub1, nadd1, nsub, nadd, nmul, List.take_length, Int.toNat_zero, Int.reduceAdd, Int.reduceSub, Int.reduceToNat, Int.reduceMul, Nat.sub_zero, Nat.min_self])
            | (refine Rm_need (by first | exact True.intro | omega | (simp; omega)) ?_)
            | (refine Rm_o z1 rfl (fun r H2 hh => ?_); obtain ⟨rfl, rfl⟩ := hh)
            | (refine Rm_o z2 rfl (fun r H2 hh => ?_); obtain ⟨rfl, rfl⟩ := hh)
            | (refine Rm_w rfl (z3) (by trivial) ?_)
            | (refine Rm_w ?_ (z3) (by trivial) ?_; · (simp [viewOfs, viewOf, List.take_of_length_le, cutL]; done))
            | (refine Rm_gi (by first | omega | (simp; omega)) ?_)
            | (refine Rm_gb (by first | omega | (simp; omega)) ?_)
            | (refine Rm_ga (by first | omega | (simp; omega)) _ rfl (Nat.le_of_ble_eq_true rfl) ?_)
            | (refine Rm_gm (by first | omega | (simp; omega)) _ rfl ?_)
            | (refine Rm_part _ _ rfl rfl ?_)
            | (refine Rm_puti (by first | omega | (simp; omega)) rfl ?_)
            | (refine Dm_draw [] (by simp) ?_)
            | (refine Tm_both ?_ ?_)
            | (refine Tm_fin (by simp only [hideOK, newsE]; simp []) ?_)
            | (refine Cm_split (fun h => ?_) (fun h => ?_) <;> (try (simp only [decide_eq_true_eq, decide_eq_false_iff_not, bne_iff_ne, beq_iff_eq, bne_eq_false_iff_eq, beq_eq_false_iff_ne, Bool.not_eq_true, Bool.not_eq_true', Bool.not_eq_false, Bool.not_eq_false', ne_eq, Bool.and_eq_true, Bool.or_eq_true, true_eq_decide_iff, false_eq_decide_iff] at h)) <;> (try omega))
            | (refine Gm_split (fun h => ?_) (fun h => ?_) <;> (try simp only [ne_eq, Bool.not_eq_true, Bool.not_eq_false] at h) <;> (try rw [h]) <;> (try (simp only [decide_eq_true_eq, decide_eq_false_iff_not, bne_iff_ne, beq_iff_eq, bne_eq_false_iff_eq, beq_eq_false_iff_ne, Bool.not_eq_true, Bool.not_eq_true', Bool.not_eq_false, Bool.not_eq_false', ne_eq, Bool.and_eq_true, Bool.or_eq_true, true_eq_decide_iff, false_eq_decide_iff] at h)) <;> (try omega))
            | (refine Sm_split (fun h => ?_) (fun h => ?_) <;> (try (simp only [decide_eq_true_eq, decide_eq_false_iff_not, bne_iff_ne, beq_iff_eq, bne_eq_false_iff_eq, beq_eq_false_iff_ne, Bool.not_eq_true, Bool.not_eq_true', Bool.not_eq_false, Bool.not_eq_false', ne_eq, Bool.and_eq_true, Bool.or_eq_true, true_eq_decide_iff, false_eq_decide_iff] at h)) <;> (try omega))
            | (exact ret_p rfl ⟨rfl, rfl⟩)
            | (refine ret_okv (by first | trivial | simp only [go_sem, detD, detDs, detP, and_self, and_true]) ?_)
            | (exact ret_gen _ _ _ rfl rfl rfl ⟨rfl, rfl⟩)
            | (simp only [Option.some.injEq, DV.tup.injEq, DV.p.injEq, List.cons.injEq, PV.int.injEq, PV.bool.injEq, PV.str.injEq, and_true, true_and])
            | rfl
            | (refine Bool.eq_iff_iff.2 ?_; simp only [decide_eq_true_eq, Bool.and_eq_true, Bool.or_eq_true, Bool.not_eq_true', decide_eq_false_iff_not, Bool.false_eq_true, beq_iff_eq, bne_iff_ne, ne_eq, false_iff, iff_false, true_iff, iff_true]; omega)
            | omega)
        · have z5 := z5 rfl
          repeat' (first
            | (simp only [go_sem, reduceIte, Nat.reduceEqDiff, Nat.reduceBEq, Nat.reduceAdd, Nat.reduceLeDiff])
            | (simp (disch := omega) only [w64])
            | (refine Rm_need (by first | exact True.intro | omega | (simp; omega)) ?_)
            | (refine Rm_o z1 rfl (fun r H2 hh => ?_); obtain ⟨rfl, rfl⟩ := hh)
            | (refine Rm_o z2 rfl (fun r H2 hh => ?_); obtain ⟨rfl, rfl⟩ := hh)
            | (refine Rm_w rfl (z3) (by trivial) ?_)
            | (refine Rm_w ?_ (z3) (by trivial) ?_; · (simp [viewOfs, viewOf]; done))
            | (refine Rm_o z5 rfl (fun r H2 hh => ?_); obtain ⟨rfl, rfl⟩ := hh)
            | (refine Rm_w rfl (z4) (by trivial) ?_)
            | (refine Rm_w ?_ (z4) (by trivial) ?_; · (simp [viewOfs, viewOf, List.take_of_length_le, cutL]; done))
            | (refine Rm_gi (by first | omega | (simp; omega)) ?_)
            | (refine Rm_gb (by first | omega | (simp; omega)) ?_)
            | (refine Rm_ga (by first | omega | (simp; omega)) _ rfl (Nat.le_of_ble_eq_true rfl) ?_)
            | (refine Rm_gm (by first | omega | (simp; omega)) _ rfl ?_)
            | (refine Rm_part _ _ rfl rfl ?_)
            | (refine Rm_puti (by first | omega | (simp; omega)) rfl ?_)
            | (refine Dm_draw [] (by simp) ?_)
            | (refine Tm_both ?_ ?_)
            | (refine Tm_fin (by simp only [hideOK, newsE]; simp []) ?_)
            | (refine Cm_split (fun h => ?_) (fun h => ?_) <;> (try (simp only [decide_eq_true_eq, decide_eq_false_iff_not, bne_iff_ne, beq_iff_eq, bne_eq_false_iff_eq, beq_eq_false_iff_ne, Bool.not_eq_true, Bool.not_eq_true', Bool.not_eq_false, Bool.not_eq_false', ne_eq, Bool.and_eq_true, Bool.or_eq_true, true_eq_decide_iff, false_eq_decide_iff] at h)) <;> (try omega))
            | (refine Gm_split (fun h => ?_) (fun h => ?_) <;> (try simp only [ne_eq, Bool.not_eq_true, Bool.not_eq_false] at h) <;> (try rw [h]) <;> (try (simp only [decide_eq_true_eq, decide_eq_false_iff_not, bne_iff_ne, beq_iff_eq, bne_eq_false_iff_eq, beq_eq_false_iff_ne, Bool.not_eq_true, Bool.not_eq_true', Bool.not_eq_false, Bool.not_eq_false', ne_eq, Bool.and_eq_true, Bool.or_eq_true, true_eq_decide_iff, false_eq_decide_iff] at h)) <;> (try omega))
            | (refine Sm_split (fun h => ?_) (fun h => ?_) <;> (try (simp only [decide_eq_true_eq, decide_eq_false_iff_not, bne_iff_ne, beq_iff_eq, bne_eq_false_iff_eq, beq_eq_false_iff_ne, Bool.not_eq_true, Bool.not_eq_true', Bool.not_eq_false, Bool.not_eq_false', ne_eq, Bool.and_eq_true, Bool.or_eq_true, true_eq_decide_iff, false_eq_decide_iff] at h)) <;> (try omega))
            | (exact ret_p rfl ⟨rfl, rfl⟩)
            | (refine ret_okv (by first | trivial | simp only [go_sem, detD, detDs, detP, and_self, and_true]) ?_)
            | (exact ret_gen _ _ _ rfl rfl rfl ⟨rfl, rfl⟩)
            | (simp only [Option.some.injEq, DV.tup.injEq, DV.p.injEq, List.cons.injEq, PV.int.injEq, PV.bool.injEq, PV.str.injEq, and_true, true_and])
            | rfl
            | (refine Bool.eq_iff_iff.2 ?_; simp only [decide_eq_true_eq, Bool.and_eq_true, Bool.or_eq_true, Bool.not_eq_true', decide_eq_false_iff_not, Bool.false_eq_true, beq_iff_eq, bne_iff_ne, ne_eq, false_iff, iff_false, true_iff, iff_true]; omega)
            | omega)
end Go.Proofs.Ytchekagoaidlpaa

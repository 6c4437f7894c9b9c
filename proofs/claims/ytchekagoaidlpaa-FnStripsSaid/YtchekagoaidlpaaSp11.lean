import Derived.Test.YtchekagoaidlpaaSp10
namespace Go.Proofs.Ytchekagoaidlpaa
open Go.Dv Go.Dv.EvL
attribute [local irreducible] Ok Rm Dm Om Sm Xm Cm Gm Hm Tm

/-! ### a valid strip's sentence is read back -/
theorem parts_skip : ∀ {p t : Txt}, p.all (fun c => !upB c) = true → parts (p ++ t) = parts t
  | [], _, _ => rfl
  | c :: p, t, h => by
    simp only [List.all_cons, Bool.and_eq_true, Bool.not_eq_true'] at h
    rw [List.cons_append, parts_no h.1, parts_skip h.2]
theorem parts_rest {xs : List Txt} (h : ptsB xs) (hl : 1 ≤ xs.length) : parts ([97, 110, 100] ++ 32 :: restT xs) = xs.drop 1 := by
  rcases route_cases hl with ⟨a, rfl⟩ | ⟨a, b, rfl⟩ | ⟨a, ys, z, hn, rfl⟩
  · have e : restT [a] = endW := rfl
    rw [e]
    show parts ([97, 110, 100] ++ 32 :: endW) = []
    decide
  · have hb := h b (by simp)
    rw [rest_two, show [97, 110, 100] ++ 32 :: (onW ++ (b ++ [46])) = ([97, 110, 100, 32] ++ onW) ++ (b ++ 46 :: []) from by simp, parts_skip (by decide), parts_word hb.1 (by omega) (by decide)]
    rfl
  · have hz := h z (by simp)
    have hy : ptsB ys := fun q hq => h q (by simp [hq])
    rw [rest_more hn, show [97, 110, 100] ++ 32 :: (onW ++ (joinC ys ++ (andW ++ (z ++ [46])))) = ([97, 110, 100, 32] ++ onW) ++ (joinC ys ++ 32 :: ([97, 110, 100, 32] ++ (z ++ 46 :: []))) from by simp [andW], parts_skip (by decide)]
    cases ys with
    | nil => exact absurd rfl hn
    | cons y t =>
      rw [joinC_parts (by decide) hy, parts_skip (by decide), parts_word hz.1 (by omega) (by decide)]
      rfl
def rcW : Txt := [114, 101, 97, 99, 104, 101, 115]
/-- the words from 'reaches' on -/
def tailW (s : Stp) : List Txt := rcW :: s.route.getD 0 [] :: [97, 116] :: tmT s :: [97, 110, 100] :: splitB 32 (restT s.route)
theorem tm_no {s : Stp} (h : 0 ≤ s.mn ∧ s.mn ≤ 1439) {c : UInt8} (hc : digP c = false) (h2 : c ≠ 58) : c ∉ tmT s := by
  obtain ⟨a, b, x, y, e, ⟨h3, h4, h5, h6⟩, _⟩ := tm_at h
  unfold tmT
  rw [e]
  simp only [List.mem_cons, List.not_mem_nil, or_false, not_or]
  exact ⟨dig_not h3 hc, dig_not h4 hc, h2, dig_not h5 hc, dig_not h6 hc⟩
theorem words_at {s : Stp} (h : stB s = true) : wds (stT s) = s.name :: [105, 115] :: [97, 116] :: (htT s.ht ++ [44]) :: tailW s ∨ (wds (stT s) = s.name :: [105, 115] :: [97, 116] :: num s.ht :: ftW :: tailW s ∧ htT s.ht = num s.ht ++ [32, 102, 116]) := by
  obtain ⟨h1, h2, h3, h4, h5⟩ := st_fine h
  have n1 : (32 : UInt8) ∉ s.name := nm_no h1.1 (by decide)
  have n2 : (32 : UInt8) ∉ s.route.getD 0 [] := up_no (pt_ok h5 (by omega)).1 (by decide)
  have n3 : (32 : UInt8) ∉ tmT s := tm_no h4 (by decide) (by decide)
  have e9 : splitB 32 (s.route.getD 0 [] ++ 32 :: ([97, 116] ++ 32 :: (tmT s ++ 32 :: ([97, 110, 100] ++ 32 :: restT s.route)))) = s.route.getD 0 [] :: [97, 116] :: tmT s :: [97, 110, 100] :: splitB 32 (restT s.route) := by
    rw [split_app n2, split_app (by decide), split_app n3, split_app (by decide)]
  unfold wds tailW
  rcases ht_cases h2 with ⟨k, _, _, e⟩ | ⟨e, _⟩
  · refine .inl ?_
    have n4 : (32 : UInt8) ∉ htT s.ht ++ [44] := by
      rw [e]
      simp only [List.mem_append, not_or]
      exact ⟨⟨by decide, dec_no (by decide)⟩, by decide⟩
    rw [st_eq, show s.name ++ (isAt ++ (htT s.ht ++ (reach ++ (s.route.getD 0 [] ++ (atW ++ (tmT s ++ (andW ++ restT s.route))))))) = s.name ++ 32 :: ([105, 115] ++ 32 :: ([97, 116] ++ 32 :: ((htT s.ht ++ [44]) ++ 32 :: (rcW ++ 32 :: (s.route.getD 0 [] ++ 32 :: ([97, 116] ++ 32 :: (tmT s ++ 32 :: ([97, 110, 100] ++ 32 :: restT s.route)))))))) from by simp [isAt, reach, atW, andW, rcW]]
    rw [split_app n1, split_app (by decide), split_app (by decide), split_app n4, split_app (by decide), e9]
  · refine .inr ⟨?_, e⟩
    have n4 : (32 : UInt8) ∉ num s.ht := num_no (by decide) (by decide)
    rw [st_eq, e, show s.name ++ (isAt ++ (num s.ht ++ [32, 102, 116] ++ (reach ++ (s.route.getD 0 [] ++ (atW ++ (tmT s ++ (andW ++ restT s.route))))))) = s.name ++ 32 :: ([105, 115] ++ 32 :: ([97, 116] ++ 32 :: (num s.ht ++ 32 :: (ftW ++ 32 :: (rcW ++ 32 :: (s.route.getD 0 [] ++ 32 :: ([97, 116] ++ 32 :: (tmT s ++ 32 :: ([97, 110, 100] ++ 32 :: restT s.route))))))))) from by simp [isAt, reach, atW, andW, rcW, ftW]]
    rw [split_app n1, split_app (by decide), split_app (by decide), split_app n4, split_app (by decide), split_app (by decide), e9]
theorem ip_at {s : Stp} (h : stB s = true) : 8 ≤ (wds (stT s)).length ∧ ipG (stT s) = htT s.ht ++ [44] ∧ ipR (stT s) = tailW s ∧ (wds (stT s)).getD 0 [] = s.name := by
  have hl : 6 ≤ (tailW s).length := by
    have := (split_len 32 (restT s.route)).2
    simp only [tailW, List.length_cons]
    omega
  rcases words_at h with e | ⟨e, e2⟩
  · have en : ipN (stT s) = 1 := by
      unfold ipN
      rw [e]
      exact if_neg (show ¬ rcW = ftW by decide)
    refine ⟨by rw [e]; simp only [List.length_cons]; omega, ?_, ?_, by rw [e]; rfl⟩
    · unfold ipG
      rw [en, e]
      simp [cutL, joinTo]
    · unfold ipR
      rw [en, e]
      rfl
  · have en : ipN (stT s) = 2 := by
      unfold ipN
      rw [e]
      exact if_pos rfl
    refine ⟨by rw [e]; simp only [List.length_cons]; omega, ?_, ?_, by rw [e]; rfl⟩
    · unfold ipG
      rw [en, e, e2]
      simp [cutL, joinTo, ftW]
    · unfold ipR
      rw [en, e]
      rfl
theorem init_take {p : Txt} {x : UInt8} : (p ++ [x]).take ((p ++ [x]).length - 1) = p := by
  rw [List.length_append, List.length_cons, List.length_nil, Nat.add_sub_cancel, List.take_left]
theorem stp_eq {s t : Stp} (h1 : s.name = t.name) (h2 : s.ht = t.ht) (h3 : s.route = t.route) (h4 : s.mn = t.mn) : s = t := by
  cases s; cases t; simp_all
theorem drop_one {xs : List Txt} (h : 1 ≤ xs.length) : xs.getD 0 [] :: xs.drop 1 = xs := by
  cases xs with
  | nil => simp at h
  | cons x t => rfl
theorem ipX_ht (s : Txt) : (ipX s).ht = (chkH (ipT s) (hgI (ipT s))).1 := by unfold ipX; rfl
theorem ipX_rt (s : Txt) : (ipX s).route = (ipR s).getD 1 [] :: parts (ipL s) := by unfold ipX; rfl
theorem ipX_mn (s : Txt) : (ipX s).mn = 60 * hrTo ((ipR s).getD 3 []) 0 2 + hrTo ((ipR s).getD 3 []) 3 2 := by unfold ipX; rfl
theorem ipX_nm (s : Txt) : (ipX s).name = (wds s).getD 0 [] := by unfold ipX; rfl
theorem spX_ht (s : Txt) : (spX s).ht = (chkH (spB s).1 (hgS (spB s).1)).1 := by unfold spX; rfl
theorem spX_rt (s : Txt) : (spX s).route = (spC s).1 :: spR (cut2 (spD s) goW).2.1 := by unfold spX; rfl
theorem spX_mn (s : Txt) : (spX s).mn = 60 * dig2 ((spD s).take 2) + dig2 (cutL (spD s) 3 5) := by unfold spX; rfl
theorem spX_nm (s : Txt) : (spX s).name = (spA s).1 := by unfold spX; rfl
theorem iParse_at {s : Stp} (h : stB s = true) : iParse (stT s) = some s := by
  obtain ⟨h1, h2, h3, h4, h5⟩ := st_fine h
  obtain ⟨g1, g2, g3, g4⟩ := ip_at h
  obtain ⟨a, b, c, d, e, hd, hm⟩ := tm_at h4
  have hT : ipT (stT s) = htT s.ht := by
    unfold ipT
    rw [g2, init_take]
  have hH : chkH (ipT (stT s)) (hgI (ipT (stT s))) = (s.ht, true) := by rw [hT, hgI_at h2, chk_at h2]
  have hL : ipL (stT s) = [97, 110, 100] ++ 32 :: restT s.route := by
    unfold ipL
    rw [g3, join_B]
    show joinB 32 ([97, 110, 100] :: splitB 32 (restT s.route)) = _
    rw [join_cons (split_ne 32 _), join_split]
  have hw : (ipR (stT s)).getD 3 [] = [a, b, 58, c, d] := by
    rw [g3]
    show tmT s = _
    unfold tmT
    exact e
  have hX : ipX (stT s) = s := by
    refine stp_eq (by rw [ipX_nm, g4]) (by rw [ipX_ht, hH]) ?_ ?_
    · rw [ipX_rt, hL, parts_rest (st_pts h) h3.1, g3]
      exact drop_one h3.1
    · rw [ipX_mn, hw]
      simp only [hrTo, List.getD_cons_zero, List.getD_cons_succ, Nat.add_zero, Nat.zero_add]
      show 60 * (10 * (10 * 0 + (a.toNat : Int) - 48) + (b.toNat : Int) - 48) + (10 * (10 * 0 + (c.toNat : Int) - 48) + (d.toNat : Int) - 48) = _
      omega
  have ok : ipOk (stT s) := by
    refine ⟨g1, by rw [g2]; simp, ?_, by rw [hw]; rfl, by rw [hH], by rw [hX]; exact h, by rw [hX]⟩
    rw [g3]
    simp only [tailW, List.length_cons]
    omega
  unfold iParse
  rw [if_pos ok, hX]
theorem go_on (t : Txt) : andW ++ (onW ++ t) = goW ++ t := by simp [andW, onW, goW]
theorem spR_at {xs : List Txt} {tm : Txt} (h : ptsB xs) (hl : 1 ≤ xs.length) (n1 : (32 : UInt8) ∉ tm) (n2 : (103 : UInt8) ∉ tm) : spR (cut2 (tm ++ (andW ++ restT xs)) goW).2.1 = xs.drop 1 := by
  rcases route_cases hl with ⟨a, rfl⟩ | ⟨a, b, rfl⟩ | ⟨a, ys, z, hn, rfl⟩
  · have e : restT [a] = endW := rfl
    rw [e, cut2_no (j := 5) (c := 103) rfl (by simp only [List.mem_append, not_or]; exact ⟨n2, by decide, by decide⟩)]
    rfl
  · have hb := h b (by simp)
    rw [rest_two, go_on, cut2_fst (c := 32) rfl n1]
    unfold spR
    rw [if_neg (by simp), init_take, cut2_no (j := 0) (c := 32) rfl (up_no hb.1 (by decide))]
    simp only [split_none (up_no hb.1 (show upB 44 = false by decide))]
    rfl
  · have hz := h z (by simp)
    have hy : ptsB ys := fun q hq => h q (by simp [hq])
    rw [rest_more hn, go_on, cut2_fst (c := 32) rfl n1]
    unfold spR
    have e : joinC ys ++ (andW ++ (z ++ [46])) = (joinC ys ++ (andW ++ z)) ++ [46] := by simp only [List.append_assoc]
    simp only []
    rw [e, if_neg (by simp), init_take, cut2_snd (c1 := 32) (c2 := 97) rfl rfl (by decide) (joinC_no (by decide) (by decide) (by decide) hy), joinC_trim hy hn]
    rfl
theorem rest_len {xs : List Txt} (h : ptsB xs) (hl : 1 ≤ xs.length ∧ xs.length ≤ 6) : (restT xs).length ≤ 70 := by
  rcases route_cases hl.1 with ⟨a, rfl⟩ | ⟨a, b, rfl⟩ | ⟨a, ys, z, hn, rfl⟩
  · show endW.length ≤ 70
    decide
  · have hb := h b (by simp)
    have e : onW.length = 11 := rfl
    rw [rest_two]
    simp only [List.length_append, List.length_cons, List.length_nil]
    omega
  · have hz := h z (by simp)
    have hy : ptsB ys := fun q hq => h q (by simp [hq])
    have h1 := joinC_len hy
    have e : onW.length = 11 := rfl
    have e2 : andW.length = 5 := rfl
    rw [rest_more hn]
    simp only [List.length_append, List.length_cons, List.length_nil] at hl ⊢
    omega
theorem st_len {s : Stp} (h : stB s = true) : (stT s).length ≤ 150 := by
  obtain ⟨h1, h2, h3, h4, h5⟩ := st_fine h
  obtain ⟨a, b, c, d, e, _, _⟩ := tm_at h4
  have p1 := ht_size h2
  have p2 := pt_ok (i := 0) h5 (by omega)
  have p3 := rest_len (st_pts h) h3
  have p4 : (tmT s).length = 5 := by unfold tmT; rw [e]; rfl
  have e1 : isAt.length = 7 := rfl
  have e2 : reach.length = 10 := rfl
  have e3 : atW.length = 4 := rfl
  have e4 : andW.length = 5 := rfl
  rw [st_eq]
  simp only [List.length_append]
  omega
theorem sParse_at {s : Stp} (h : stB s = true) : sParse (stT s) = some s := by
  obtain ⟨h1, h2, h3, h4, h5⟩ := st_fine h
  obtain ⟨a, b, c, d, e, hd, hm⟩ := tm_at h4
  have hA : spA (stT s) = (s.name, htT s.ht ++ (reach ++ (s.route.getD 0 [] ++ (atW ++ (tmT s ++ (andW ++ restT s.route))))), true) := by
    unfold spA
    rw [st_eq]
    exact cut2_fst (c := 32) rfl (nm_no h1.1 (by decide))
  have hB : spB (stT s) = (htT s.ht, s.route.getD 0 [] ++ (atW ++ (tmT s ++ (andW ++ restT s.route))), true) := by
    unfold spB
    rw [hA]
    exact cut2_fst (c := 44) rfl (ht_no h2)
  have hC : spC (stT s) = (s.route.getD 0 [], tmT s ++ (andW ++ restT s.route), true) := by
    unfold spC
    rw [hB]
    exact cut2_fst (c := 32) rfl (up_no (pt_ok h5 (by omega)).1 (by decide))
  have hD : spD (stT s) = tmT s ++ (andW ++ restT s.route) := by
    unfold spD
    rw [hC]
  have hR := spR_at (tm := tmT s) (st_pts h) h3.1 (tm_no h4 (by decide) (by decide)) (tm_no h4 (by decide) (by decide))
  have ht : tmT s = [a, b, 58, c, d] := e
  have hX : spX (stT s) = s := by
    refine stp_eq (by rw [spX_nm, hA]) (by rw [spX_ht, hB]; simp only []; rw [hgS_at h2, chk_at h2]) ?_ ?_
    · rw [spX_rt, hC, hD, hR]
      exact drop_one h3.1
    · rw [spX_mn, hD, ht]
      have e1 : dig2 (([a, b, 58, c, d] ++ (andW ++ restT s.route)).take 2) = 10 * ((a.toNat : Int) - 48) + (b.toNat : Int) - 48 := if_pos ⟨hd.1, hd.2.1⟩
      have e2 : dig2 (cutL ([a, b, 58, c, d] ++ (andW ++ restT s.route)) 3 5) = 10 * ((c.toNat : Int) - 48) + (d.toNat : Int) - 48 := if_pos ⟨hd.2.2.1, hd.2.2.2⟩
      rw [e1, e2, hm]
  have ok : spOk (stT s) := by
    refine ⟨st_len h, by rw [hA], by rw [hB], by rw [hC], ?_, by rw [hX]; exact h, by rw [hX]⟩
    rw [hD, ht]
    simp only [List.length_append, List.length_cons, List.length_nil]
    have e4 : andW.length = 5 := rfl
    omega
  unfold sParse
  rw [if_pos ok, hX]
theorem parse_same (s : Txt) : iParse s = sParse s := by
  by_cases hi : ipOk s
  · have h1 := iParse_at hi.2.2.2.2.2.1
    have h2 := sParse_at hi.2.2.2.2.2.1
    rw [hi.2.2.2.2.2.2] at h1 h2
    rw [h1, h2]
  · by_cases hs : spOk s
    · have h1 := iParse_at hs.2.2.2.2.2.1
      have h2 := sParse_at hs.2.2.2.2.2.1
      rw [hs.2.2.2.2.2.2] at h1 h2
      rw [h1, h2]
    · unfold iParse sParse
      rw [if_neg hi, if_neg hs]
end Go.Proofs.Ytchekagoaidlpaa

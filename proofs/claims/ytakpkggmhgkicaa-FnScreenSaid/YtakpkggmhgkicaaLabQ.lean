import Derived.Test.YtakpkggmhgkicaaLabP
namespace Go.Proofs.Ytakpkggmhgkicaa
open Go.Dv Go.Dv.EvL
attribute [local irreducible] Ok Rm Dm Om Sm Xm Cm Gm Hm Tm

theorem fold_best {g : Int → List Int × Int} : ∀ {L : List Int} {acc : List Int × Int},
    (0 ≤ acc.2 → 0 ≤ (L.foldl (fun a c => better a (g c)) acc).2 ∧ (L.foldl (fun a c => better a (g c)) acc).2 ≤ acc.2) ∧
    (∀ c ∈ L, 0 ≤ (g c).2 → 0 ≤ (L.foldl (fun a c => better a (g c)) acc).2 ∧ (L.foldl (fun a c => better a (g c)) acc).2 ≤ (g c).2) ∧
    (L.foldl (fun a c => better a (g c)) acc = acc ∨ ∃ c ∈ L, L.foldl (fun a c => better a (g c)) acc = g c ∧ 0 ≤ (g c).2)
  | [], acc => ⟨fun h => ⟨h, Int.le_refl _⟩, by simp, .inl rfl⟩
  | c :: L, acc => by
    obtain ⟨h1, h2, h3⟩ := fold_best (g := g) (L := L) (acc := better acc (g c))
    simp only [List.foldl_cons]
    have hb : better acc (g c) = if 0 ≤ (g c).2 ∧ (acc.2 < 0 ∨ (g c).2 < acc.2) then g c else acc := rfl
    generalize L.foldl (fun a c => better a (g c)) (better acc (g c)) = r at *
    generalize better acc (g c) = b at *
    refine ⟨fun h => ?_, fun d hd hg => ?_, ?_⟩
    · split at hb
      · subst hb
        have := h1 (by omega)
        omega
      · subst hb
        exact h1 h
    · rcases List.mem_cons.1 hd with rfl | hd
      · split at hb
        · subst hb
          exact h1 hg
        · subst hb
          have := h1 (by omega)
          omega
      · exact h2 d hd hg
    · rcases h3 with h3 | ⟨d, hd, h3⟩
      · split at hb
        · rename_i hh
          exact .inr ⟨c, by simp, by rw [h3, hb], hh.1⟩
        · exact .inl (by rw [h3, hb])
      · exact .inr ⟨d, by simp [hd], h3⟩
/-- corners that are possible, from spot i on -/
def okF (xs : List Sp) (i : Nat) (es : List Int) : Prop := ∀ j, j < es.length → es.getD j 0 ∈ cornersO (xs.getD (i + j) default)
theorem okF_cons {xs : List Sp} {i : Nat} {e : Int} {es : List Int} : okF xs i (e :: es) ↔ e ∈ cornersO (xs.getD i default) ∧ okF xs (i + 1) es := by
  constructor
  · intro h
    refine ⟨by simpa using h 0 (by simp), fun j hj => ?_⟩
    have := h (j + 1) (by simp; omega)
    rw [show i + (j + 1) = i + 1 + j from by omega] at this
    simpa using this
  · rintro ⟨h1, h2⟩ j hj
    cases j with
    | zero => simpa using h1
    | succ j =>
      have := h2 j (by simpa using hj)
      rw [show i + (j + 1) = i + 1 + j from by omega]
      simpa using this
theorem best_spec {xs : List Sp} : ∀ {f : Nat} {cs : List Int}, cs.length + f = xs.length →
    (∀ es, es.length = f → okF xs cs.length es → 0 ≤ (bestO xs f cs).2 ∧ (bestO xs f cs).2 ≤ trO xs (cs ++ es)) ∧
    ((bestO xs f cs).2 < 0 → bestO xs f cs = ([], -1)) ∧
    (0 ≤ (bestO xs f cs).2 → ∃ es, es.length = f ∧ okF xs cs.length es ∧ bestO xs f cs = (cs ++ es, (trO xs (cs ++ es) : Int)))
  | 0, cs, h => by
    refine ⟨fun es he _ => ?_, fun hn => ?_, fun _ => ⟨[], rfl, fun j hj => by simp at hj, by simp [bestO]⟩⟩
    · obtain rfl := List.eq_nil_of_length_eq_zero he
      simp only [bestO, List.append_nil]
      omega
    · simp only [bestO] at hn
      omega
  | f + 1, cs, h => by
    have ih := fun c : Int => best_spec (xs := xs) (f := f) (cs := cs ++ [c]) (by simp; omega)
    obtain ⟨h1, h2, h3⟩ := fold_best (g := fun c => bestO xs f (cs ++ [c])) (L := cornersO (xs.getD cs.length default)) (acc := ([], -1))
    have hd : bestO xs (f + 1) cs = (cornersO (xs.getD cs.length default)).foldl (fun acc c => better acc (bestO xs f (cs ++ [c]))) ([], -1) := rfl
    rw [← hd] at h1 h2 h3
    generalize bestO xs (f + 1) cs = r at *
    refine ⟨fun es he hok => ?_, fun hn => ?_, fun hp => ?_⟩
    · cases es with
      | nil => simp at he
      | cons e es =>
        obtain ⟨he1, he2⟩ := okF_cons.1 hok
        have g1 := (ih e).1 es (by simpa using he) (by simpa using he2)
        have g2 := h2 e he1 g1.1
        rw [List.append_assoc, List.singleton_append] at g1
        omega
    · rcases h3 with h3 | ⟨c, hc, h3, h4⟩
      · exact h3
      · rw [← h3] at h4
        omega
    · rcases h3 with h3 | ⟨c, hc, h3, h4⟩
      · rw [h3] at hp
        simp at hp
      · obtain ⟨es, e1, e2, e3⟩ := (ih c).2.2 h4
        refine ⟨c :: es, by simp [e1], okF_cons.2 ⟨hc, by simpa using e2⟩, ?_⟩
        rw [h3]
        simp only [e3, List.append_assoc, List.singleton_append]
theorem pick_fold {xs : List Sp} {out : List Int} : ∀ {L : List Int} {acc : Int × Int}, (∀ c ∈ L, 0 ≤ c) →
    (0 ≤ acc.1 → 0 ≤ (L.foldl (pick1 xs out) acc).1) ∧ (L ≠ [] → 0 ≤ (L.foldl (pick1 xs out) acc).1) ∧ ((L.foldl (pick1 xs out) acc).1 = acc.1 ∨ (L.foldl (pick1 xs out) acc).1 ∈ L)
  | [], acc, _ => ⟨fun h => h, fun h => absurd rfl h, .inl rfl⟩
  | c :: L, acc, h => by
    obtain ⟨h1, _, h3⟩ := pick_fold (xs := xs) (out := out) (L := L) (acc := pick1 xs out acc c) (fun d hd => h d (by simp [hd]))
    have hc := h c (by simp)
    simp only [List.foldl_cons]
    have hb : pick1 xs out acc c = if acc.1 < 0 ∨ (trO xs (out ++ [c]) : Int) < acc.2 then (c, (trO xs (out ++ [c]) : Int)) else acc := rfl
    generalize L.foldl (pick1 xs out) (pick1 xs out acc c) = r at *
    generalize pick1 xs out acc c = b at *
    refine ⟨fun ha => ?_, fun _ => ?_, ?_⟩
    · split at hb <;> subst hb <;> exact h1 (by simpa using (by assumption))
    · split at hb <;> subst hb
      · exact h1 hc
      · exact h1 (by omega)
    · split at hb
      · subst hb
        rcases h3 with h3 | h3
        · exact .inr (by simp [h3])
        · exact .inr (by simp [h3])
      · subst hb
        rcases h3 with h3 | h3
        · exact .inl h3
        · exact .inr (by simp [h3])
theorem getD_snoc {α : Type} {l : List α} {a d : α} {j : Nat} : (l ++ [a]).getD j d = if j = l.length then a else l.getD j d := by
  simp only [List.getD_eq_getElem?_getD, List.getElem?_append]
  split
  · rw [if_neg (by omega)]
  · split
    · rename_i h; simp [h]
    · rename_i h h2
      rw [List.getElem?_eq_none (by simp; omega), List.getElem?_eq_none (by omega)]
theorem simple_spec {xs : List Sp} : ∀ {i : Nat}, match simpleTo xs i with
    | some out => okF xs 0 out
    | none => ∃ j, j < i ∧ cornersO (xs.getD j default) = []
  | 0 => by simp [simpleTo, okF]
  | i + 1 => by
    have ih := simple_spec (xs := xs) (i := i)
    have hl := fun out => simple_len (xs := xs) (i := i) (out := out)
    unfold simpleTo
    cases hs : simpleTo xs i with
    | none =>
      rw [hs] at ih
      obtain ⟨j, hj, h⟩ := ih
      exact ⟨j, by omega, h⟩
    | some out =>
      rw [hs] at ih
      have hl := hl out hs
      simp only [] at ih ⊢
      obtain ⟨_, h2, h3⟩ := pick_fold (xs := xs) (out := out) (L := cornersO (xs.getD i default)) (acc := (-1, 0)) (fun c hc => (corners_mem.1 hc).1.1)
      generalize (cornersO (xs.getD i default)).foldl (pick1 xs out) (-1, 0) = r at *
      by_cases hr : r.1 < 0
      · rw [if_pos hr]
        simp only []
        refine ⟨i, by omega, ?_⟩
        rcases List.eq_nil_or_concat (cornersO (xs.getD i default)) with h | ⟨l, a, h⟩
        · exact h
        · have := h2 (by rw [h]; simp)
          omega
      · rw [if_neg hr]
        simp only []
        intro j hj
        rw [getD_snoc, hl, Nat.zero_add]
        split
        · rename_i hji
          rw [hji]
          rcases h3 with h3 | h3
          · simp at h3; omega
          · exact h3
        · have := ih j (by simp at hj; omega)
          simpa using this
theorem plTo_of {xs : List Sp} {cs : List Int} : ∀ {n : Nat}, (∀ i, i < n → cs.getD i 0 ∈ cornersO (xs.getD i default)) → plTo xs cs n = true
  | 0, _ => rfl
  | n + 1, h => by
    have h1 := plTo_of (n := n) fun i hi => h i (by omega)
    have h2 := corners_mem.1 (h n (by omega))
    simp only [plTo, h1, h2.2, Bool.true_and, Bool.and_true, decide_eq_true_eq]
    exact h2.1
theorem pl_iff {xs : List Sp} {cs : List Int} (h : lbB xs = true) (hl : cs.length = xs.length) : plB xs cs = true ↔ okF xs 0 cs := by
  constructor
  · intro hp j hj
    rw [Nat.zero_add]
    exact corners_mem.2 (plTo_at (pl_in hp).2.2 hj)
  · intro ho
    simp only [plB, h, hl, Bool.true_and, decide_true]
    exact plTo_of fun i hi => by have := ho i (by omega); simpa using this
def bestA (xs : List Sp) : List Int × Int := bestO xs xs.length []
theorem lab_1 {xs : List Sp} {cs : List Int} (h : plB xs cs = true) : 0 ≤ (bestA xs).2 ∧ (bestA xs).2 ≤ trO xs cs := by
  obtain ⟨h1, h2, h3⟩ := pl_in h
  exact (best_spec (xs := xs) (f := xs.length) (cs := []) (by simp)).1 cs h2 ((pl_iff h1 h2).1 h)
theorem lab_2 {xs : List Sp} (h : lbB xs = true) : (simpleTo xs xs.length).isSome = decide (0 ≤ (bestA xs).2) := by
  have hs := simple_spec (xs := xs) (i := xs.length)
  have hl := fun out => simple_len (xs := xs) (i := xs.length) (out := out)
  cases he : simpleTo xs xs.length with
  | none =>
    rw [he] at hs
    obtain ⟨j, hj, hn⟩ := hs
    refine (decide_eq_false fun hp => ?_).symm
    obtain ⟨es, e1, e2, _⟩ := (best_spec (xs := xs) (f := xs.length) (cs := []) (by simp)).2.2 hp
    have := e2 j (by omega)
    rw [List.length_nil, Nat.zero_add, hn] at this
    cases this
  | some out =>
    rw [he] at hs
    exact (decide_eq_true (lab_1 ((pl_iff h (hl _ he)).2 hs)).1).symm
theorem lab_3 {xs : List Sp} (h : lbB xs = true) (hp : 0 ≤ (bestA xs).2) : (bestA xs).1.length = xs.length ∧ plB xs (bestA xs).1 = true ∧ (trO xs (bestA xs).1 : Int) = (bestA xs).2 := by
  obtain ⟨es, e1, e2, e3⟩ := (best_spec (xs := xs) (f := xs.length) (cs := []) (by simp)).2.2 hp
  have e4 : bestA xs = (es, (trO xs es : Int)) := by
    unfold bestA
    simpa using e3
  rw [e4]
  exact ⟨e1, (pl_iff h e1).2 e2, rfl⟩
theorem lab_3s {xs : List Sp} {out : List Int} (h : lbB xs = true) (hs : simpleTo xs xs.length = some out) : out.length = xs.length ∧ plB xs out = true ∧ (bestA xs).2 ≤ trO xs out := by
  have h1 := simple_spec (xs := xs) (i := xs.length)
  rw [hs] at h1
  have h2 := simple_len hs
  have h3 := (pl_iff h h2).2 h1
  exact ⟨h2, h3, (lab_1 h3).2⟩
theorem lab_neg {xs : List Sp} (hp : ¬ 0 ≤ (bestA xs).2) : bestA xs = ([], -1) :=
  (best_spec (xs := xs) (f := xs.length) (cs := []) (by simp)).2.1 (Int.not_le.1 hp)
theorem cv_zero {xs : List Sp} {a : Sp} : ∀ {n : Nat}, cvTo xs a n = 0 → ∀ k, k < n → cov a (xs.getD k default) = false
  | 0, _, k, h => by omega
  | n + 1, h, k, hk => by
    unfold cvTo at h
    by_cases h1 : k < n
    · exact cv_zero (n := n) (by omega) k h1
    · obtain rfl : k = n := by omega
      rw [Bool.eq_false_iff]
      intro hc
      rw [if_pos hc] at h
      omega
theorem tr_zero {xs ls : List Sp} {n : Nat} : ∀ {m : Nat}, trTo xs ls n m = 0 → ∀ i, i < m → cvTo xs (ls.getD i default) n = 0
  | 0, _, i, h => by omega
  | m + 1, h, i, hi => by
    unfold trTo at h
    by_cases h1 : i < m
    · exact tr_zero (m := m) (by omega) i h1
    · obtain rfl : i = m := by omega
      omega
theorem lab_4 {xs : List Sp} {cs : List Int} (hl : cs.length = xs.length) (h : trO xs cs = 0) : coverTo xs cs xs.length = [] := by
  have h1 : ∀ i k, i < xs.length → k < xs.length → cov (at1 (xs.getD k default) (cs.getD k 0)) (xs.getD i default) = false := fun i k hi hk => by
    have h2 := tr_zero h k (by omega)
    rw [lbls_get (by omega)] at h2
    exact cv_zero h2 i (by omega)
  have h2 : ∀ i, i < xs.length → ∀ n, n ≤ xs.length → cvd xs cs i n = false := fun i hi n => by
    induction n with
    | zero => intro _; rfl
    | succ n ih =>
      intro hn
      rw [cvd, ih (by omega), h1 i n hi (by omega)]
      rfl
  have h3 : ∀ n, n ≤ xs.length → coverTo xs cs n = [] := fun n => by
    induction n with
    | zero => intro _; rfl
    | succ n ih =>
      intro hn
      rw [coverTo, ih (by omega), h2 n (by omega) _ (Nat.le_refl _)]
      rfl
  exact h3 _ (Nat.le_refl _)
end Go.Proofs.Ytakpkggmhgkicaa

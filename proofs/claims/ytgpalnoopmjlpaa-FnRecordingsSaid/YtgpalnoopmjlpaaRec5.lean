import Derived.Test.YtgpalnoopmjlpaaRec3
import Derived.Test.YtgpalnoopmjlpaaNums
namespace Go.Proofs.Ytgpalnoopmjlpaa
open Go.Dv Go.Dv.EvL
attribute [local irreducible] Ok Rm Dm Om Sm Xm Cm Gm Hm Tm

/-! ### texts of recordings, read -/
theorem split_app {b : UInt8} : ∀ {p t : List UInt8}, b ∉ p → splitB b (p ++ b :: t) = p :: splitB b t
  | [], t, _ => by simp [splitB]
  | c :: p, t, h => by
    simp only [List.mem_cons, not_or] at h
    rw [List.cons_append, splitB, if_neg (fun e => h.1 e.symm), split_app h.2]
    rfl
def joinB (b : UInt8) : List (List UInt8) → List UInt8
  | [] => []
  | [x] => x
  | x :: y :: t => x ++ b :: joinB b (y :: t)
theorem join_cons {b : UInt8} {x : List UInt8} {X : List (List UInt8)} (h : X ≠ []) : joinB b (x :: X) = x ++ b :: joinB b X := by
  cases X with
  | nil => exact absurd rfl h
  | cons y t => rfl
theorem join_glue {b c : UInt8} {X : List (List UInt8)} (h : X ≠ []) : joinB b (glue [c] X) = c :: joinB b X := by
  cases X with
  | nil => exact absurd rfl h
  | cons y t =>
    cases t with
    | nil => rfl
    | cons z t => rfl
theorem join_split (b : UInt8) : ∀ s, joinB b (splitB b s) = s
  | [] => rfl
  | c :: s => by
    rw [splitB]
    split
    · rename_i h
      rw [join_cons (split_ne b s), join_split b s, h]
      rfl
    · rw [join_glue (split_ne b s), join_split b s]
theorem join_lines : ∀ ys : List (List UInt8), joinB 10 (ys ++ [[]]) = ys.flatMap (· ++ [10])
  | [] => rfl
  | y :: ys => by
    rw [List.cons_append, join_cons (by simp), join_lines ys, List.flatMap_cons, List.append_assoc]
    rfl
def bodyO (r : Rcd) : List UInt8 := num r.sec ++ 32 :: r.hex
theorem line_body (r : Rcd) : lineO r = bodyO r ++ [10] := by simp [lineO, bodyO]
theorem text_lines (xs : List Rcd) : textO xs = (xs.map bodyO).flatMap (· ++ [10]) := by
  unfold textO
  rw [List.flatMap_map]
  congr 1
  funext r
  exact line_body r
theorem num_dec {n : Int} (h : 0 ≤ n) : num n = dec n.toNat := by
  unfold num
  rw [if_neg (by omega), show n.natAbs = n.toNat from by omega]
theorem hex_no {s : List UInt8} {c : UInt8} (h : s.all hexP = true) (hc : hexP c = false) : c ∉ s := fun hm => by
  rw [List.all_eq_true.1 h c hm] at hc
  cases hc
theorem body_parts {r : Rcd} (h : rcdB r = true) : (10 : UInt8) ∉ bodyO r ∧ (32 : UInt8) ∉ num r.sec ∧ (32 : UInt8) ∉ r.hex ∧ num r.sec = dec r.sec.toNat ∧ (dec r.sec.toNat).length ≤ 5 ∧ (bodyO r).length ≤ 20 := by
  have h1 := rcd_in h
  have h2 := num_dec h1.1
  have h3 := dec_len r.sec.toNat 4 (by omega)
  have n10 : (10 : UInt8) ∉ dec r.sec.toNat := by
    intro hm
    have := List.all_eq_true.1 (dec_ok r.sec.toNat).1 10 hm
    revert this
    decide
  have n32 : (32 : UInt8) ∉ dec r.sec.toNat := by
    intro hm
    have := List.all_eq_true.1 (dec_ok r.sec.toNat).1 32 hm
    revert this
    decide
  refine ⟨?_, by rw [h2]; exact n32, hex_no h1.2.2.2.2 (by decide), h2, h3, ?_⟩
  · unfold bodyO
    rw [h2]
    simp only [List.mem_append, List.mem_cons, not_or]
    exact ⟨n10, by decide, hex_no h1.2.2.2.2 (by decide)⟩
  · unfold bodyO
    rw [h2]
    simp only [List.length_append, List.length_cons]
    omega
theorem split_text : ∀ {xs : List Rcd}, (∀ r ∈ xs, rcdB r = true) → splitB 10 (textO xs) = xs.map bodyO ++ [[]]
  | [], _ => rfl
  | r :: xs, h => by
    have ih := split_text (xs := xs) fun q hq => h q (by simp [hq])
    have hb := (body_parts (h r (by simp))).1
    have e : textO (r :: xs) = bodyO r ++ 10 :: textO xs := by
      unfold textO
      rw [List.flatMap_cons, line_body, List.append_assoc]
      rfl
    rw [e, split_app hb, ih]
    rfl
theorem split_body {r : Rcd} (h : rcdB r = true) : splitB 32 (bodyO r) = [num r.sec, r.hex] := by
  have hp := body_parts h
  unfold bodyO
  rw [split_app hp.2.1, split_none hp.2.2.1]
theorem numO_dec {n : Nat} (h : n ≤ 999999999) : numO (dec n) = ((n : Int), true) := by
  obtain ⟨h1, h2⟩ := dec_ok n
  have h3 := dec_len n 8 (by omega)
  have h4 := dec_pos n
  have hb : numB (dec n) = true := by
    unfold numB
    rw [h1]
    simp only [Bool.and_true, Bool.and_eq_true, Bool.or_eq_true, decide_eq_true_eq]
    refine ⟨by omega, ?_⟩
    rcases Nat.eq_zero_or_pos n with h0 | h0
    · subst h0
      exact .inr (by rw [dec_small (by omega)]; rfl)
    · exact .inl (dec_head h0)
  unfold numO
  rw [if_pos hb, h2]
theorem numO_true {s : List UInt8} (h : (numO s).2 = true) : ∃ n : Nat, s = dec n ∧ numO s = ((n : Int), true) ∧ n < 1000000000 := by
  unfold numO at h ⊢
  split at h
  · rename_i hb
    rw [if_pos hb]
    unfold numB at hb
    simp only [Bool.and_eq_true, Bool.or_eq_true, decide_eq_true_eq] at hb
    refine ⟨valN s, (dec_val _ s rfl (by omega) hb.1.2 hb.2).symm, rfl, ?_⟩
    have := val_lt _ s rfl hb.1.2
    exact Nat.lt_of_lt_of_le this (Nat.le_trans (Nat.pow_le_pow_right (by omega) hb.1.1.2) (by decide))
  · cases h
open Classical in
theorem text_len20 {xs : List Rcd} (h : ∀ r ∈ xs, rcdB r = true) : (textO xs).length ≤ 21 * xs.length := by
  induction xs with
  | nil => simp [textO]
  | cons r xs ih =>
    have h1 := ih fun q hq => h q (by simp [hq])
    have h2 := (body_parts (h r (by simp))).2.2.2.2.2
    have e : textO (r :: xs) = lineO r ++ textO xs := rfl
    rw [e, line_body]
    simp only [List.length_append, List.length_cons, List.length_nil]
    omega
end Go.Proofs.Ytgpalnoopmjlpaa

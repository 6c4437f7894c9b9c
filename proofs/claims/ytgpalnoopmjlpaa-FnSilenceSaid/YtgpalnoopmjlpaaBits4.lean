import Derived.Test.YtgpalnoopmjlpaaBits3
namespace Go.Proofs.Ytgpalnoopmjlpaa
open Go.Dv Go.Dv.EvL
attribute [local irreducible] Ok Rm Dm Om Sm Xm Cm Gm Hm Tm

theorem bitsN_snoc (v : Nat) (b : Bool) : ∀ d, bitsN (2 * v + b.toNat) (d + 1) = bitsN v d ++ [bitC b]
  | 0 => by
    have : (2 * v + b.toNat).testBit 0 = b := by
      rw [Nat.testBit_zero]
      cases b <;> simp <;> omega
    simp [bitsN, this]
  | d + 1 => by
    have h : (2 * v + b.toNat).testBit (d + 1) = v.testBit d := by
      rw [Nat.testBit_succ]
      congr 1
      cases b <;> simp <;> omega
    have ih := bitsN_snoc v b d
    rw [bitsN, h, ih]
    rfl
theorem xor_bitsN (x y : Nat) : ∀ d, xorB (bitsN x d) (bitsN y d) = bitsN (x ^^^ y) d
  | 0 => rfl
  | d + 1 => by
    have ih := xor_bitsN x y d
    unfold xorB at ih ⊢
    simp only [bitsN, List.zipWith_cons_cons, ih, Nat.testBit_xor]
    congr 1
    cases x.testBit d <;> cases y.testBit d <;> decide
theorem bitP_of {c : UInt8} (h : bitP c = true) : c = bitC (decide (c = 49)) ∧ c.toNat - 48 = (decide (c = 49)).toNat := by
  unfold bitP at h
  simp only [Bool.or_eq_true, decide_eq_true_eq] at h
  rcases h with rfl | rfl <;> decide
theorem bitsN_val : ∀ (k : Nat) (t : List UInt8), t.length = k → t.all bitP = true → bitsN (valB t) k = t
  | 0, t, hl, _ => by rw [List.eq_nil_of_length_eq_zero hl]; rfl
  | k + 1, t, hl, hd => by
    obtain ⟨u, c, rfl⟩ : ∃ u c, t = u ++ [c] := by
      rcases List.eq_nil_or_concat t with rfl | ⟨u, c, e⟩
      · simp at hl
      · exact ⟨u, c, by simpa using e⟩
    rw [List.all_append] at hd
    simp only [List.all_cons, List.all_nil, Bool.and_true, Bool.and_eq_true] at hd
    simp only [List.length_append, List.length_cons, List.length_nil] at hl
    have hc := bitP_of hd.2
    have ih := bitsN_val k u (by omega) hd.1
    rw [valB_snoc, hc.2, bitsN_snoc, ih, ← hc.1]
theorem bitsN_low {v d : Nat} (h : v < 2 ^ d) : bitsN v (d + 1) = 48 :: bitsN v d := by
  rw [bitsN, Nat.testBit_lt_two_pow h]
  rfl
/-- the text that is divided -/
def divF (s : List UInt8) : List UInt8 := s ++ List.replicate 12 48
theorem divF_len (s : List UInt8) : (divF s).length = s.length + 12 := by simp [divF]
theorem divF_bits {s : List UInt8} (h : s.all bitP = true) : (divF s).all bitP = true := by
  unfold divF
  rw [List.all_append, h]
  decide
theorem divF_at {s : List UInt8} (h : s.all bitP = true) {j : Nat} (hj : j < s.length + 12) : (divF s).getD j default = bitC (decide (j < s.length ∧ s.getD j default = 49)) := by
  unfold divF
  rcases Nat.lt_or_ge j s.length with h1 | h1
  · rw [List.getD_eq_getElem?_getD, List.getElem?_append_left h1, ← List.getD_eq_getElem?_getD]
    have hb := (bitP_of (List.all_eq_true.1 h _ (getD_mem (d := default) h1))).1
    have he : decide (j < s.length ∧ s.getD j default = 49) = decide (s.getD j default = 49) := by simp only [h1, true_and]
    rw [he]
    exact hb
  · rw [List.getD_eq_getElem?_getD, List.getElem?_append_right h1, List.getElem?_replicate, if_pos (by omega)]
    rw [show decide (j < s.length ∧ s.getD j default = 49) = false from by simp; omega]
    rfl
theorem par_low {s : List UInt8} (h : s.all bitP = true) : ∀ i, i ≤ 12 → parTo s i = valB ((divF s).take i)
  | 0, _ => rfl
  | i + 1, hi => by
    have ih := par_low h i (by omega)
    have hl := divF_len s
    have hv := valB_lt _ ((divF s).take i) rfl (take_bits (divF_bits h))
    have hlt : ((divF s).take i).length = i := by rw [List.length_take]; omega
    rw [hlt] at hv
    have hp : (2 : Nat) ^ i ≤ 2 ^ 11 := Nat.pow_le_pow_right (by omega) (by omega)
    rw [valB_step (by omega), divF_at h (by omega), parTo, ih, stepP]
    have hb : (bitC (decide (i < s.length ∧ s.getD i default = 49))).toNat - 48 = (decide (i < s.length ∧ s.getD i default = 49)).toNat := by rw [bitC_val]; omega
    rw [hb]
    have hle : (decide (i < s.length ∧ s.getD i default = 49)).toNat ≤ 1 := by cases decide (i < s.length ∧ s.getD i default = 49) <;> decide
    rw [if_neg (by omega)]
/-- the bytes while they are divided -/
def divL (s : List UInt8) (i : Nat) : List UInt8 := List.replicate i 48 ++ (bitsN (parTo s (i + 12)) 12 ++ (divF s).drop (i + 12))
theorem divL_len {s : List UInt8} {i : Nat} (h : i ≤ s.length) : (divL s i).length = s.length + 12 := by
  have := divF_len s
  simp only [divL, List.length_append, List.length_replicate, bits_len, List.length_drop]
  omega
theorem divL_zero {s : List UInt8} (h : s.all bitP = true) : divL s 0 = divF s := by
  have hl := divF_len s
  have e := bitsN_val 12 ((divF s).take 12) (by rw [List.length_take]; omega) (take_bits (divF_bits h))
  unfold divL
  rw [Nat.zero_add, par_low h 12 (Nat.le_refl _), e]
  simp
theorem divL_win {s : List UInt8} (h : s.all bitP = true) {i : Nat} (hi : i < s.length) :
    divL s i = List.replicate i 48 ++ (bitsN (2 * parTo s (i + 12) + (decide (i + 12 < s.length ∧ s.getD (i + 12) default = 49)).toNat) 13 ++ (divF s).drop (i + 13)) := by
  have hl := divF_len s
  unfold divL
  rw [drop_cons (d := default) (show i + 12 < (divF s).length by omega), divF_at h (by omega), bitsN_snoc, List.append_assoc]
  rfl
end Go.Proofs.Ytgpalnoopmjlpaa

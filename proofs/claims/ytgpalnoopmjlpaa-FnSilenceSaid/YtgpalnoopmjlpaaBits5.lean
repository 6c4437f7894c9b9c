import Derived.Test.YtgpalnoopmjlpaaBits4
namespace Go.Proofs.Ytgpalnoopmjlpaa
open Go.Dv Go.Dv.EvL
attribute [local irreducible] Ok Rm Dm Om Sm Xm Cm Gm Hm Tm

/-- the window's number -/
def winX (s : List UInt8) (i : Nat) : Nat := 2 * parTo s (i + 12) + (decide (i + 12 < s.length ∧ s.getD (i + 12) default = 49)).toNat
theorem winX_lt (s : List UInt8) (i : Nat) : winX s i < 8192 := by
  have h1 := parTo_lt s (i + 12)
  have h2 : (decide (i + 12 < s.length ∧ s.getD (i + 12) default = 49)).toNat ≤ 1 := by cases decide (i + 12 < s.length ∧ s.getD (i + 12) default = 49) <;> decide
  unfold winX
  omega
theorem winX_step (s : List UInt8) (i : Nat) : parTo s (i + 1 + 12) = if 4096 ≤ winX s i then winX s i ^^^ 6159 else winX s i := by
  rw [show i + 1 + 12 = (i + 12) + 1 from by omega, parTo, stepP]
  rfl
theorem top_bit {v : Nat} (h : v < 8192) : v.testBit 12 = decide (4096 ≤ v) := by
  have h1 := Nat.testBit_lt_two_pow (x := v - 4096) (i := 12) (by omega)
  by_cases h2 : 4096 ≤ v
  · have e : v.testBit 12 = (decide (v / 2 ^ 12 % 2 = 1)) := Nat.testBit_eq_decide_div_mod_eq
    rw [e, decide_eq_decide]
    omega
  · rw [Nat.testBit_lt_two_pow (by omega)]
    simp [h2]
theorem divL_at {s : List UInt8} (h : s.all bitP = true) {i : Nat} (hi : i < s.length) : (divL s i).getD i default = bitC (decide (4096 ≤ winX s i)) := by
  rw [divL_win h hi, List.getD_eq_getElem?_getD, List.getElem?_append_right (by simp), List.length_replicate, Nat.sub_self]
  show ((bitsN (winX s i) 13 ++ _)[0]?).getD default = _
  rw [bitsN, top_bit (winX_lt s i)]
  rfl
theorem divL_same {s : List UInt8} (h : s.all bitP = true) {i : Nat} (hi : i < s.length) (hx : winX s i < 4096) : divL s (i + 1) = divL s i := by
  rw [divL_win h hi]
  show _ = List.replicate i 48 ++ (bitsN (winX s i) 13 ++ (divF s).drop (i + 13))
  rw [bitsN_low (d := 12) (by omega)]
  unfold divL
  rw [winX_step, if_neg (by omega), List.replicate_succ', List.append_assoc]
  rfl
/-- the window -/
def divW (s : List UInt8) (i : Nat) : List UInt8 := ((divL s i).drop i).take 13
theorem divW_eq {s : List UInt8} (h : s.all bitP = true) {i : Nat} (hi : i < s.length) : divW s i = bitsN (winX s i) 13 := by
  unfold divW
  rw [divL_win h hi, List.drop_left' (by simp), List.take_left' (bits_len _ _)]
  rfl
theorem divL_next {s : List UInt8} (h : s.all bitP = true) {i : Nat} (hi : i < s.length) (hx : 4096 ≤ winX s i) :
    (divL s i).take i ++ xorB (divW s i) [49, 49, 48, 48, 48, 48, 48, 48, 48, 49, 49, 49, 49] ++ (divL s i).drop (i + 13) = divL s (i + 1) := by
  have hd : ([49, 49, 48, 48, 48, 48, 48, 48, 48, 49, 49, 49, 49] : List UInt8) = bitsN 6159 13 := by decide
  have hw := winX_lt s i
  have hlt : winX s i ^^^ 6159 < 4096 := by
    obtain ⟨v, hv⟩ : ∃ v, winX s i = 4096 + v := ⟨winX s i - 4096, by omega⟩
    rw [hv]
    exact xor_top v (by omega)
  rw [divW_eq h hi, hd, xor_bitsN, bitsN_low (d := 12) (by omega), divL_win h hi]
  show (List.replicate i 48 ++ (bitsN (winX s i) 13 ++ (divF s).drop (i + 13))).take i ++ _ ++ (List.replicate i 48 ++ (bitsN (winX s i) 13 ++ (divF s).drop (i + 13))).drop (i + 13) = _
  rw [List.take_left' (by simp), ← List.append_assoc (List.replicate i 48) (bitsN (winX s i) 13), List.drop_left' (by simp [bits_len])]
  unfold divL
  rw [winX_step, if_pos hx, List.replicate_succ', show i + 1 + 12 = i + 13 from by omega]
  simp
theorem divW_len {s : List UInt8} (h : s.all bitP = true) {i : Nat} (hi : i < s.length) : (divW s i).length = 13 := by rw [divW_eq h hi, bits_len]
theorem divL_end {s : List UInt8} : (divL s s.length).drop s.length = bitsN (parN s) 12 := by
  unfold divL
  rw [List.drop_left' (by simp), List.drop_eq_nil_of_le (by rw [divF_len]; omega), List.append_nil]
  rfl
end Go.Proofs.Ytgpalnoopmjlpaa

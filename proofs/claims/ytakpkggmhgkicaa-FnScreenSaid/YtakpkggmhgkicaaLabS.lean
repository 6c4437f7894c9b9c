import Derived.Test.YtakpkggmhgkicaaLabP
namespace Go.Proofs.Ytakpkggmhgkicaa
open Go.Dv Go.Dv.EvL
attribute [local irreducible] Ok Rm Dm Om Sm Xm Cm Gm Hm Tm

/-- the first label from i on that covers a cell -/
def fco (ls : List Sp) (p : Sp) : Nat → Nat → UInt8
  | 0, _ => 46
  | d + 1, i => if cov (ls.getD i default) p then UInt8.ofNat (48 + i) else fco ls p d (i + 1)
def byteO (xs ls : List Sp) (p : Sp) : UInt8 := if p ∈ xs then 42 else fco ls p xs.length 0
def rowTo (xs ls : List Sp) (y : Nat) : Nat → List UInt8
  | 0 => []
  | x + 1 => rowTo xs ls y x ++ [byteO xs ls ⟨x, y⟩]
def scrTo (xs ls : List Sp) : Nat → List UInt8
  | 0 => []
  | y + 1 => scrTo xs ls y ++ (rowTo xs ls y 60 ++ [10])
def scrO (xs : List Sp) (cs : List Int) : List UInt8 := scrTo xs (lbls xs cs cs.length) 30
theorem row_succ {xs ls : List Sp} {y x : Nat} : rowTo xs ls y (x + 1) = rowTo xs ls y x ++ [byteO xs ls ⟨x, y⟩] := rfl
theorem row_zero {xs ls : List Sp} {y : Nat} : rowTo xs ls y 0 = [] := rfl
theorem scr_succ {xs ls : List Sp} {y : Nat} : scrTo xs ls (y + 1) = scrTo xs ls y ++ (rowTo xs ls y 60 ++ [10]) := rfl
theorem scr_zero {xs ls : List Sp} : scrTo xs ls 0 = [] := rfl
theorem byteO_def {xs ls : List Sp} {p : Sp} : byteO xs ls p = if p ∈ xs then 42 else fco ls p xs.length 0 := rfl
theorem scrO_def {xs : List Sp} {cs : List Int} : scrO xs cs = scrTo xs (lbls xs cs cs.length) 30 := rfl
theorem row_len {xs ls : List Sp} {y : Nat} : ∀ {n : Nat}, (rowTo xs ls y n).length = n
  | 0 => rfl
  | n + 1 => by simp [rowTo, row_len]
theorem scr_len {xs ls : List Sp} : ∀ {n : Nat}, (scrTo xs ls n).length = 61 * n
  | 0 => rfl
  | n + 1 => by simp [scrTo, row_len, scr_len]; omega
theorem row_get {xs ls : List Sp} {y x : Nat} : ∀ {n : Nat}, x < n → (rowTo xs ls y n).getD x 0 = byteO xs ls ⟨x, y⟩
  | 0, h => by omega
  | n + 1, h => by
    simp only [rowTo, List.getD_eq_getElem?_getD]
    by_cases h1 : x < n
    · rw [List.getElem?_append_left (by rw [row_len]; exact h1)]
      have := row_get (xs := xs) (ls := ls) (y := y) h1
      rwa [List.getD_eq_getElem?_getD] at this
    · obtain rfl : x = n := by omega
      rw [List.getElem?_append_right (by rw [row_len]; exact Nat.le_refl _), row_len, Nat.sub_self]
      rfl
theorem scr_get {xs ls : List Sp} {x y : Nat} (hx : x < 60) : ∀ {n : Nat}, y < n → (scrTo xs ls n).getD (61 * y + x) 0 = byteO xs ls ⟨x, y⟩
  | 0, h => by omega
  | n + 1, h => by
    simp only [scrTo, List.getD_eq_getElem?_getD]
    by_cases h1 : y < n
    · rw [List.getElem?_append_left (by rw [scr_len]; omega)]
      have := scr_get (xs := xs) (ls := ls) hx h1
      rwa [List.getD_eq_getElem?_getD] at this
    · obtain rfl : y = n := by omega
      rw [List.getElem?_append_right (by rw [scr_len]; omega), scr_len, show 61 * y + x - 61 * y = x from by omega, List.getElem?_append_left (by rw [row_len]; exact hx)]
      have := row_get (xs := xs) (ls := ls) (y := y) hx
      rwa [List.getD_eq_getElem?_getD] at this
theorem fco_in {ls : List Sp} {p : Sp} : ∀ {d i : Nat}, fco ls p d i = 46 ∨ ∃ k, i ≤ k ∧ k < i + d ∧ fco ls p d i = UInt8.ofNat (48 + k)
  | 0, i => .inl rfl
  | d + 1, i => by
    unfold fco
    split
    · exact .inr ⟨i, by omega, by omega, rfl⟩
    · rcases fco_in (ls := ls) (p := p) (d := d) (i := i + 1) with h | ⟨k, h1, h2, h3⟩
      · exact .inl h
      · exact .inr ⟨k, by omega, by omega, h3⟩
theorem fco_ne {ls : List Sp} {p : Sp} {k : Nat} (hk : k < 200) (hc : cov (ls.getD k default) p = true) : ∀ {d i : Nat}, i ≤ k → k < i + d → fco ls p d i ≠ 46
  | 0, i, h1, h2 => by omega
  | d + 1, i, h1, h2 => by
    unfold fco
    split
    · intro h
      have := congrArg UInt8.toNat h
      rw [UInt8.toNat_ofNat_of_lt' (by show 48 + i < 256; omega)] at this
      have e : (46 : UInt8).toNat = 46 := rfl
      omega
    · rename_i h
      have : i ≠ k := by rintro rfl; exact h hc
      exact fco_ne hk hc (by omega) (by omega)
theorem byte_star {xs ls : List Sp} {p : Sp} (h : xs.length ≤ 5) : byteO xs ls p = 42 ↔ p ∈ xs := by
  unfold byteO
  split
  · rename_i h; simp [h]
  · rename_i hn
    refine ⟨fun he => ?_, fun he => absurd he hn⟩
    rcases fco_in (ls := ls) (p := p) (d := xs.length) (i := 0) with h1 | ⟨k, _, h1, h2⟩
    · rw [h1] at he; cases he
    · rw [h2] at he
      have := congrArg UInt8.toNat he
      rw [UInt8.toNat_ofNat_of_lt' (by show 48 + k < 256; omega)] at this
      have e : (42 : UInt8).toNat = 42 := rfl
      omega
def c1 (xs : List Sp) (y : Nat) : Nat → Nat
  | 0 => 0
  | x + 1 => c1 xs y x + if (⟨x, y⟩ : Sp) ∈ xs then 1 else 0
def c2 (xs : List Sp) : Nat → Nat
  | 0 => 0
  | y + 1 => c2 xs y + c1 xs y 60
theorem c1_snoc {xs : List Sp} {q : Sp} (hq : q ∉ xs) {y : Nat} : ∀ {n : Nat}, c1 (xs ++ [q]) y n = c1 xs y n + if q.y = y ∧ 0 ≤ q.x ∧ q.x < n then 1 else 0
  | 0 => by
    simp only [c1]
    rw [if_neg (by omega)]
  | n + 1 => by
    have ih := c1_snoc (xs := xs) hq (y := y) (n := n)
    have e : (⟨n, y⟩ : Sp) ∈ xs ++ [q] ↔ (⟨n, y⟩ : Sp) ∈ xs ∨ (q.x = n ∧ q.y = y) := by
      rw [List.mem_append, List.mem_singleton, sp_eq]
      simp only []
      constructor
      · rintro (h | ⟨h1, h2⟩)
        · exact .inl h
        · exact .inr ⟨h1.symm, h2.symm⟩
      · rintro (h | ⟨h1, h2⟩)
        · exact .inl h
        · exact .inr ⟨h1.symm, h2.symm⟩
    have hne : (q.x = n ∧ q.y = y) → (⟨n, y⟩ : Sp) ∉ xs := by
      rintro ⟨h1, h2⟩ hm
      have : q = ⟨n, y⟩ := sp_eq.2 ⟨h1, h2⟩
      rw [← this] at hm
      exact hq hm
    simp only [c1, ih]
    by_cases h1 : q.x = n ∧ q.y = y
    · rw [if_pos (c := (⟨n, y⟩ : Sp) ∈ xs ++ [q]) (e.2 (.inr h1)), if_neg (c := (⟨n, y⟩ : Sp) ∈ xs) (hne h1)]
      split <;> split <;> omega
    · by_cases h2 : (⟨n, y⟩ : Sp) ∈ xs
      · rw [if_pos (c := (⟨n, y⟩ : Sp) ∈ xs ++ [q]) (e.2 (.inl h2)), if_pos (c := (⟨n, y⟩ : Sp) ∈ xs) h2]
        split <;> split <;> omega
      · rw [if_neg (c := (⟨n, y⟩ : Sp) ∈ xs ++ [q]) (fun h => (e.1 h).elim h2 h1), if_neg (c := (⟨n, y⟩ : Sp) ∈ xs) h2]
        split <;> split <;> omega
theorem c2_snoc {xs : List Sp} {q : Sp} (hq : q ∉ xs) (hx : 0 ≤ q.x ∧ q.x < 60) : ∀ {n : Nat}, c2 (xs ++ [q]) n = c2 xs n + if 0 ≤ q.y ∧ q.y < n then 1 else 0
  | 0 => by
    simp only [c2]
    rw [if_neg (by omega)]
  | n + 1 => by
    have ih := c2_snoc (xs := xs) hq hx (n := n)
    simp only [c2, ih, c1_snoc hq]
    split <;> split <;> split <;> omega
theorem c1_nil {y : Nat} : ∀ {n : Nat}, c1 [] y n = 0
  | 0 => rfl
  | n + 1 => by simp [c1, c1_nil]
theorem c2_nil : ∀ {n : Nat}, c2 [] n = 0
  | 0 => rfl
  | n + 1 => by simp [c2, c2_nil, c1_nil]
theorem c2_all {xs : List Sp} : ∀ {i : Nat}, i ≤ xs.length → spTo xs i = true → c2 (xs.take i) 30 = i
  | 0, _, _ => by rw [List.take_zero, c2_nil]
  | i + 1, hi, h => by
    simp only [spTo, Bool.and_eq_true, decide_eq_true_eq] at h
    have h1 := on_in h.1.2
    rw [take_snoc (d := default) (show i < xs.length by omega), c2_snoc h.2 (by omega), c2_all (by omega) h.1.1, if_pos (by omega)]
theorem cnt_row {xs ls : List Sp} (h : xs.length ≤ 5) {y : Nat} : ∀ {n : Nat}, (rowTo xs ls y n).count 42 = c1 xs y n
  | 0 => rfl
  | n + 1 => by
    have hb := byte_star (xs := xs) (ls := ls) (p := ⟨n, y⟩) h
    simp only [rowTo, c1, List.count_append, cnt_row h]
    congr 1
    by_cases h1 : (⟨n, y⟩ : Sp) ∈ xs
    · rw [if_pos h1, hb.2 h1]; rfl
    · rw [if_neg h1, List.count_eq_zero]
      simp only [List.mem_singleton]
      exact fun h => h1 (hb.1 h.symm)
theorem cnt_scr {xs ls : List Sp} (h : xs.length ≤ 5) : ∀ {n : Nat}, (scrTo xs ls n).count 42 = c2 xs n
  | 0 => rfl
  | n + 1 => by
    simp only [scrTo, c2, List.count_append, cnt_scr h, cnt_row h]
    rfl
theorem scr_stars {xs : List Sp} {cs : List Int} (h : lbB xs = true) : (scrO xs cs).count 42 = xs.length := by
  simp only [lbB, Bool.and_eq_true, decide_eq_true_eq] at h
  have := c2_all (Nat.le_refl _) h.2
  rw [List.take_length] at this
  rw [scrO, cnt_scr h.1, this]
theorem lok_in {p : Sp} {c : Int} (h : lok p c = true) : (0 ≤ atX p.x c ∧ atX p.x c ≤ 52) ∧ 0 ≤ atY p.y c ∧ atY p.y c ≤ 27 := by
  simpa [lok] using h
theorem scr_dot {xs : List Sp} {cs : List Int} {i : Nat} (h : plB xs cs = true) (hi : i < xs.length) : (scrO xs cs).getD (atY (xs.getD i default).y (cs.getD i 0) * 61 + atX (xs.getD i default).x (cs.getD i 0)).toNat 0 ≠ 46 := by
  obtain ⟨h1, h2, h3⟩ := pl_in h
  have h4 := lok_in (plTo_at h3 (show i < cs.length by omega)).2
  have h5 := lb_in h1
  have h6 := lbls_get (xs := xs) (cs := cs) (i := i) (n := cs.length) (by omega)
  have h7 : at1 (xs.getD i default) (cs.getD i 0) = ⟨atX (xs.getD i default).x (cs.getD i 0), atY (xs.getD i default).y (cs.getD i 0)⟩ := rfl
  generalize atX (xs.getD i default).x (cs.getD i 0) = X at *
  generalize atY (xs.getD i default).y (cs.getD i 0) = Y at *
  obtain ⟨x, rfl⟩ : ∃ x : Nat, X = x := ⟨X.toNat, by omega⟩
  obtain ⟨y, rfl⟩ : ∃ y : Nat, Y = y := ⟨Y.toNat, by omega⟩
  rw [show ((y : Int) * 61 + x).toNat = 61 * y + x from by omega, scrO, scr_get (by omega) (by omega)]
  unfold byteO
  split
  · decide
  · refine fco_ne (k := i) (by omega) ?_ (by omega) (by omega)
    rw [h6, h7]
    simp [cov]
    omega
end Go.Proofs.Ytakpkggmhgkicaa

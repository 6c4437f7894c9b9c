import Derived.Test.YtakpkggmhgkicaaSpK
namespace Go.Proofs.Ytakpkggmhgkicaa
open Go.Dv Go.Dv.EvL
attribute [local irreducible] Ok Rm Dm Om Sm Xm Cm Gm Hm Tm

theorem sp_eq {a b : Sp} : a = b ↔ a.x = b.x ∧ a.y = b.y := by
  cases a; cases b; simp
def onB (x y : Int) : Bool := decide (0 ≤ x ∧ x ≤ 59) && decide (0 ≤ y ∧ y ≤ 29)
/-- the first spots are on the screen, and differ -/
def spTo (xs : List Sp) : Nat → Bool
  | 0 => true
  | i + 1 => spTo xs i && onB (xs.getD i default).x (xs.getD i default).y && decide (xs.getD i default ∉ xs.take i)
def lbB (xs : List Sp) : Bool := decide (xs.length ≤ 5) && spTo xs xs.length
def atX (x c : Int) : Int := if c.tmod 2 = 1 then x - 8 else x + 1
def atY (y c : Int) : Int := if 2 ≤ c then y - 3 else y + 1
def at1 (p : Sp) (c : Int) : Sp := ⟨atX p.x c, atY p.y c⟩
def lok (p : Sp) (c : Int) : Bool := decide (0 ≤ atX p.x c ∧ atX p.x c ≤ 52) && decide (0 ≤ atY p.y c ∧ atY p.y c ≤ 27)
def plTo (xs : List Sp) (cs : List Int) : Nat → Bool
  | 0 => true
  | i + 1 => plTo xs cs i && decide (0 ≤ cs.getD i 0 ∧ cs.getD i 0 ≤ 3) && lok (xs.getD i default) (cs.getD i 0)
def plB (xs : List Sp) (cs : List Int) : Bool := lbB xs && decide (cs.length = xs.length) && plTo xs cs cs.length
def cov (a p : Sp) : Bool := decide (a.x ≤ p.x ∧ p.x ≤ a.x + 7) && decide (a.y ≤ p.y ∧ p.y ≤ a.y + 2)
def ovl (a b : Sp) : Bool := decide ((a.x - b.x).natAbs < 8) && decide ((a.y - b.y).natAbs < 3)
def ovTo (ls : List Sp) (i : Nat) : Nat → Nat
  | 0 => 0
  | k + 1 => ovTo ls i k + (if ovl (ls.getD i default) (ls.getD k default) then 1 else 0)
def cvTo (xs : List Sp) (a : Sp) : Nat → Nat
  | 0 => 0
  | k + 1 => cvTo xs a k + (if cov a (xs.getD k default) then 1 else 0)
/-- the labels of a placing -/
def lbls (xs : List Sp) (cs : List Int) : Nat → List Sp
  | 0 => []
  | i + 1 => lbls xs cs i ++ [at1 (xs.getD i default) (cs.getD i 0)]
theorem lbls_len {xs : List Sp} {cs : List Int} : ∀ {n : Nat}, (lbls xs cs n).length = n
  | 0 => rfl
  | n + 1 => by simp [lbls, lbls_len]
theorem lbls_get {xs : List Sp} {cs : List Int} {i : Nat} : ∀ {n : Nat}, i < n → (lbls xs cs n).getD i default = at1 (xs.getD i default) (cs.getD i 0)
  | 0, h => by omega
  | n + 1, h => by
    simp only [lbls, List.getD_eq_getElem?_getD]
    by_cases h1 : i < n
    · rw [List.getElem?_append_left (by rw [lbls_len]; exact h1)]
      have := lbls_get (xs := xs) (cs := cs) h1
      rw [List.getD_eq_getElem?_getD] at this
      simpa [List.getD_eq_getElem?_getD] using this
    · obtain rfl : i = n := by omega
      rw [List.getElem?_append_right (by rw [lbls_len]; exact Nat.le_refl _), lbls_len, Nat.sub_self]
      simp []
def trTo (xs : List Sp) (ls : List Sp) (n : Nat) : Nat → Nat
  | 0 => 0
  | i + 1 => trTo xs ls n i + ovTo ls i i + cvTo xs (ls.getD i default) n
/-- the trouble -/
def trO (xs : List Sp) (cs : List Int) : Nat := trTo xs (lbls xs cs cs.length) cs.length cs.length
theorem ov_le {ls : List Sp} {i : Nat} : ∀ {k : Nat}, ovTo ls i k ≤ k
  | 0 => Nat.le_refl _
  | k + 1 => by have := ov_le (ls := ls) (i := i) (k := k); unfold ovTo; split <;> omega
theorem cv_le {xs : List Sp} {a : Sp} : ∀ {k : Nat}, cvTo xs a k ≤ k
  | 0 => Nat.le_refl _
  | k + 1 => by have := cv_le (xs := xs) (a := a) (k := k); unfold cvTo; split <;> omega
theorem tr_le {xs ls : List Sp} {n : Nat} (hn : n ≤ 5) : ∀ {i : Nat}, i ≤ 5 → trTo xs ls n i ≤ 10 * i
  | 0, _ => Nat.le_refl _
  | i + 1, h => by
    have h1 := tr_le (xs := xs) (ls := ls) hn (i := i) (by omega)
    have h2 := ov_le (ls := ls) (i := i) (k := i)
    have h3 := cv_le (xs := xs) (a := ls.getD i default) (k := n)
    unfold trTo
    omega
theorem on_of {xs : List Sp} : ∀ {i k : Nat}, spTo xs i = true → k < i → onB (xs.getD k default).x (xs.getD k default).y = true
  | 0, k, _, h => by omega
  | i + 1, k, h, hk => by
    simp only [spTo, Bool.and_eq_true] at h
    by_cases h1 : k < i
    · exact on_of h.1.1 h1
    · obtain rfl : k = i := by omega
      exact h.1.2
theorem on_in {x y : Int} (h : onB x y = true) : 0 ≤ x ∧ x ≤ 59 ∧ 0 ≤ y ∧ y ≤ 29 := by
  simp only [onB, Bool.and_eq_true, decide_eq_true_eq] at h
  omega
theorem at_in {x y c : Int} (h : onB x y = true) : -8 ≤ atX x c ∧ atX x c ≤ 60 ∧ -3 ≤ atY y c ∧ atY y c ≤ 30 := by
  have := on_in h
  unfold atX atY
  split <;> split <;> omega
theorem lb_in {xs : List Sp} (h : lbB xs = true) : xs.length ≤ 5 ∧ ∀ i, i < xs.length → onB (xs.getD i default).x (xs.getD i default).y = true := by
  simp only [lbB, Bool.and_eq_true, decide_eq_true_eq] at h
  exact ⟨h.1, fun i hi => on_of h.2 hi⟩
theorem pl_in {xs : List Sp} {cs : List Int} (h : plB xs cs = true) : lbB xs = true ∧ cs.length = xs.length ∧ plTo xs cs cs.length = true := by
  simp only [plB, Bool.and_eq_true, decide_eq_true_eq] at h
  exact ⟨h.1.1, h.1.2, h.2⟩
theorem plTo_at {xs : List Sp} {cs : List Int} : ∀ {n i : Nat}, plTo xs cs n = true → i < n → (0 ≤ cs.getD i 0 ∧ cs.getD i 0 ≤ 3) ∧ lok (xs.getD i default) (cs.getD i 0) = true
  | 0, i, _, h => by omega
  | n + 1, i, h, hi => by
    simp only [plTo, Bool.and_eq_true, decide_eq_true_eq] at h
    by_cases h1 : i < n
    · exact plTo_at h.1.1 h1
    · obtain rfl : i = n := by omega
      exact ⟨h.1.2, h.2⟩
def cornersTo (p : Sp) (n : Nat) : List Int := ((List.range n).map fun i : Nat => (i : Int)).filter (lok p)
def cornersO (p : Sp) : List Int := cornersTo p 4
theorem corners_succ {p : Sp} {n : Nat} : cornersTo p (n + 1) = cornersTo p n ++ (if lok p n then [(n : Int)] else []) := by
  simp only [cornersTo, List.range_succ, List.map_append, List.filter_append, List.map_cons, List.map_nil]
  congr 1
  simp only [List.filter_cons, List.filter_nil]
theorem corners_len {p : Sp} {n : Nat} : (cornersTo p n).length ≤ n := by
  have := List.length_filter_le (lok p) ((List.range n).map fun i : Nat => (i : Int))
  simpa [cornersTo] using this
theorem corners_mem {p : Sp} {c : Int} : c ∈ cornersO p ↔ (0 ≤ c ∧ c ≤ 3) ∧ lok p c = true := by
  simp only [cornersO, cornersTo, List.mem_filter, List.mem_map, List.mem_range]
  constructor
  · rintro ⟨⟨i, hi, rfl⟩, h⟩
    exact ⟨by omega, h⟩
  · rintro ⟨h, h2⟩
    exact ⟨⟨c.toNat, by omega, by omega⟩, h2⟩
/-- the better one of two -/
def better (acc r : List Int × Int) : List Int × Int := if 0 ≤ r.2 ∧ (acc.2 < 0 ∨ r.2 < acc.2) then r else acc
def bestO (xs : List Sp) : Nat → List Int → List Int × Int
  | 0, cs => (cs, trO xs cs)
  | f + 1, cs => (cornersO (xs.getD cs.length default)).foldl (fun acc c => better acc (bestO xs f (cs ++ [c]))) ([], -1)
/-- one more corner, the best -/
def pick1 (xs : List Sp) (out : List Int) (acc : Int × Int) (c : Int) : Int × Int := if acc.1 < 0 ∨ (trO xs (out ++ [c]) : Int) < acc.2 then (c, trO xs (out ++ [c])) else acc
def simpleTo (xs : List Sp) : Nat → Option (List Int)
  | 0 => some []
  | i + 1 => match simpleTo xs i with
    | none => none
    | some out => let r := (cornersO (xs.getD i default)).foldl (pick1 xs out) (-1, 0)
      if r.1 < 0 then none else some (out ++ [r.1])
theorem simple_len {xs : List Sp} : ∀ {i : Nat} {out : List Int}, simpleTo xs i = some out → out.length = i
  | 0, out, h => by simp [simpleTo] at h; subst h; rfl
  | i + 1, out, h => by
    unfold simpleTo at h
    split at h
    · cases h
    · rename_i o ho
      simp only [] at h
      split at h
      · cases h
      · have := simple_len ho
        cases h
        simp [this]
/-- the spots that are covered -/
def cvd (xs : List Sp) (cs : List Int) (i : Nat) : Nat → Bool
  | 0 => false
  | k + 1 => cvd xs cs i k || cov (at1 (xs.getD k default) (cs.getD k 0)) (xs.getD i default)
def coverTo (xs : List Sp) (cs : List Int) : Nat → List Int
  | 0 => []
  | i + 1 => coverTo xs cs i ++ (if cvd xs cs i xs.length then [(i : Int)] else [])
theorem cover_len {xs : List Sp} {cs : List Int} : ∀ {i : Nat}, (coverTo xs cs i).length ≤ i
  | 0 => Nat.le_refl _
  | i + 1 => by have := cover_len (xs := xs) (cs := cs) (i := i); unfold coverTo; split <;> simp <;> omega
theorem cover_lt {xs : List Sp} {cs : List Int} : ∀ {i : Nat} {x : Int}, x ∈ coverTo xs cs i → 0 ≤ x ∧ x < i
  | 0, x, h => by simp [coverTo] at h
  | i + 1, x, h => by
    unfold coverTo at h
    rcases List.mem_append.1 h with h | h
    · have := cover_lt h; omega
    · split at h
      · simp at h; omega
      · cases h
end Go.Proofs.Ytakpkggmhgkicaa

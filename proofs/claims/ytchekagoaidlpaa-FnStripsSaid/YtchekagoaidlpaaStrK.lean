import Derived.Test.YtchekagoaidlpaaKit
namespace Go.Proofs.Ytchekagoaidlpaa
open Go.Dv Go.Dv.EvL
attribute [local irreducible] Ok Rm Dm Om Sm Xm Cm Gm Hm Tm

/-! ### rows of texts in laws -/
abbrev Txt := List UInt8
abbrev slS (xs : List Txt) : PV := .sl 1 (xs.map .str)
def ssz (xs : List Txt) : Nat := xs.length + (xs.map List.length).sum
theorem s_take {xs : List Txt} {i : Nat} (h : i < xs.length) : ((xs.take (i + 1)).map List.length).sum = ((xs.take i).map List.length).sum + (xs.getD i []).length := by
  rw [take_snoc (d := []) h, List.map_append, List.sum_append]
  simp
theorem s_part {xs : List Txt} {i : Nat} : ((xs.take i).map List.length).sum ≤ (xs.map List.length).sum := by
  have : (xs.map List.length).sum = ((xs.take i).map List.length).sum + ((xs.drop i).map List.length).sum := by
    rw [← List.sum_append, ← List.map_append, List.take_append_drop]
  omega
theorem s_one {xs : List Txt} {i : Nat} (h : i < xs.length) : (xs.getD i []).length ≤ (xs.map List.length).sum := by
  have h1 := s_take h
  have h2 := s_part (xs := xs) (i := i + 1)
  omega
def mts (k : Int) (n : Nat) : List Txt := (List.range n).map fun i : Nat => mtO (k + i)
theorem mts_len {k : Int} {n : Nat} : (mts k n).length = n := by simp [mts]
attribute [simp] mts_len
end Go.Proofs.Ytchekagoaidlpaa

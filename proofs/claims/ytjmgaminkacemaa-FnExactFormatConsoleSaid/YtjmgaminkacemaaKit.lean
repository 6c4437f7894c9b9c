import Derived.Test.YtjmgaminkacemaaBase
namespace Go.Proofs.Ytjmgaminkacemaa
open Go.Dv Go.Dv.EvL
attribute [local irreducible] Ok Rm Dm Om Sm Xm Cm Gm Hm Tm

/-- what is left of a size -/
def szO (n : Int) (s : Nat) : Int := if n < s then -1 else n - s
theorem szO_ok {n : Int} {s : Nat} (h : ¬ szO n s < 0) : (s : Int) ≤ n ∧ szO n s = n - s := by
  unfold szO at h ⊢
  split at h
  · omega
  · rename_i h1
    rw [if_neg h1]
    omega
theorem fillD_step {α : Type} {xs : List α} {z d : α} {i : Nat} (h : i < xs.length) : (xs.take i ++ List.replicate (xs.length - i) z).set i (xs.getD i d) = xs.take (i + 1) ++ List.replicate (xs.length - (i + 1)) z := by
  have e : xs.length - i = (xs.length - (i + 1)) + 1 := by omega
  rw [take_snoc (d := d) h, e, List.replicate_succ, List.set_append_right _ _ (by simp; omega)]
  have : i - (xs.take i).length = 0 := by simp; omega
  rw [this]
  simp
theorem getD_set {α : Type} {xs : List α} {i : Nat} {a d : α} (h : i < xs.length) : (xs.set i a).getD i d = a := by
  rw [List.getD_eq_getElem?_getD, List.getElem?_set_self h]
  rfl
theorem getD_set_ne {α : Type} {xs : List α} {i j : Nat} {a d : α} (h : i ≠ j) : (xs.set i a).getD j d = xs.getD j d := by
  rw [List.getD_eq_getElem?_getD, List.getElem?_set_ne h, List.getD_eq_getElem?_getD]
/-- Some cells of an element are written. -/
theorem Rm_putw {M : Md} {q : Bool} {d : Option Nat} {os : List GOp} {s : Stk} {env : Env} {H : Heap} {i j f n t k : Nat} {T : Type} [Inhabited T] {g : T → PV} {xs : List T} {y : PV} (h : j < xs.length) (z : T) (hl : y.cells.length = n)
    (hp : putP f (g (xs.getD j default)) y.cells = some (g z)) (hg : H[i]? = some (.arr t k (xs.map g))) (h2 : Sm M q (asked d os) .undef d os s env (setL H i (.arr t k ((xs.set j z).map g)))) : Rm M q (.put i ((xs.map g)[j]?) j f n y H) d os s env := by
  refine Rm_put (g (xs.getD j default)) (g z) ?_ hl hp hg ?_
  · rw [List.getElem?_map, List.getD_eq_getElem?_getD, List.getElem?_eq_getElem h]; rfl
  · rw [← List.map_set]
    exact h2

/-- the text of a mark -/
def mtO (k : Int) : List UInt8 := if k ≤ 0 then [109, 48] else 109 :: dec k.toNat
end Go.Proofs.Ytjmgaminkacemaa

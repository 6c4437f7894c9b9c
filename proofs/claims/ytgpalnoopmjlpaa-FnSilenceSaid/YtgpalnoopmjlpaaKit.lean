import Derived.Test.YtgpalnoopmjlpaaBase
namespace Go.Proofs.Ytgpalnoopmjlpaa
open Go.Dv Go.Dv.EvL
attribute [local irreducible] Ok Rm Dm Om Sm Xm Cm Gm Hm Tm

theorem getD_set_ne {α : Type} {xs : List α} {i j : Nat} {a d : α} (h : i ≠ j) : (xs.set i a).getD j d = xs.getD j d := by
  rw [List.getD_eq_getElem?_getD, List.getElem?_set_ne h, List.getD_eq_getElem?_getD]
/-- Some cells of an element are written. -/
theorem Rm_putw {M : Md} {q : Bool} {d : Option Nat} {os : List GOp} {s : Stk} {env : Env} {H : Heap} {i j f n t k : Nat} {T : Type} [Inhabited T] {g : T → PV} {xs : List T} {y : PV} (h : j < xs.length) (z : T) (hl : y.cells.length = n)
    (hp : putP f (g (xs.getD j default)) y.cells = some (g z)) (hg : H[i]? = some (.arr t k (xs.map g))) (h2 : Sm M q (asked d os) .undef d os s env (setL H i (.arr t k ((xs.set j z).map g)))) : Rm M q (.put i ((xs.map g)[j]?) j f n y H) d os s env := by
  refine Rm_put (g (xs.getD j default)) (g z) ?_ hl hp hg ?_
  · rw [List.getElem?_map, List.getD_eq_getElem?_getD, List.getElem?_eq_getElem h]; rfl
  · rw [← List.map_set]
    exact h2

/-- the text of a mark -/
def mtO (k : Int) : List UInt8 := if k ≤ 0 then [109, 48] else 109 :: dec k.toNat
end Go.Proofs.Ytgpalnoopmjlpaa

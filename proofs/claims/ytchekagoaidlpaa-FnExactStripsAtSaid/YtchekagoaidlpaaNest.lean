import Derived.Test.YtchekagoaidlpaaStripK
import Derived.Test.YtchekagoaidlpaaFrz
namespace Go.Proofs.Ytchekagoaidlpaa
open Go.Dv Go.Dv.EvL
attribute [local irreducible] Ok Rm Dm Om Sm Xm Cm Gm Hm Tm

/-! ### a row of strips that hold rows of ours -/
abbrev eRow : Nat := 27 + 1048576 * 4
def cellsF : Nat → List Stp → List DV
  | _, [] => []
  | b, s :: t => .p (.str s.name) :: .p (.int .i64 s.ht) :: .own b 0 s.route.length :: .p (.int .i64 s.mn) :: cellsF (b + 1) t
def rowF (s : Stp) : OB := .arr 9 1 (s.route.map .str)
def rowsF (xs : List Stp) : Heap := xs.map rowF
def zc : Nat → List DV
  | 0 => []
  | n + 1 => .p (.str []) :: .p (.int .i64 0) :: .nil :: .p (.int .i64 0) :: zc n
theorem zc_rep : ∀ n : Nat, (List.replicate n [DV.p (.str []), .p (.int .i64 0), .nil, .p (.int .i64 0)]).flatten = zc n
  | 0 => rfl
  | n + 1 => by rw [List.replicate_succ, List.flatten_cons, zc_rep n]; rfl
theorem zc_len : ∀ n : Nat, (zc n).length = 4 * n
  | 0 => rfl
  | n + 1 => by simp only [zc, List.length_cons, zc_len n]; omega
theorem cells_len : ∀ {b : Nat} {xs : List Stp}, (cellsF b xs).length = 4 * xs.length
  | _, [] => rfl
  | b, s :: t => by simp only [cellsF, List.length_cons, cells_len (b := b + 1) (xs := t)]; omega
theorem cells_app : ∀ {b : Nat} {xs : List Stp} {s : Stp}, cellsF b (xs ++ [s]) = cellsF b xs ++ [.p (.str s.name), .p (.int .i64 s.ht), .own (b + xs.length) 0 s.route.length, .p (.int .i64 s.mn)]
  | b, [], s => rfl
  | b, x :: t, s => by
    rw [List.cons_append, cellsF, cellsF, cells_app (b := b + 1) (xs := t), List.length_cons, show b + 1 + t.length = b + (t.length + 1) from by omega]
    rfl
theorem set4 {A Z : List DV} {n : Nat} {z1 z2 z3 z4 a b c d : DV} (hn : n = A.length) : setCells (A ++ z1 :: z2 :: z3 :: z4 :: Z) n [a, b, c, d] = A ++ a :: b :: c :: d :: Z := by
  subst hn
  simp only [setCells, setL_eq]
  induction A with
  | nil => rfl
  | cons x A _ => simp
/-! views -/
theorem view_cells {H : Heap} : ∀ {xs : List Stp} {b : Nat}, (∀ j x, xs[j]? = some x → H[b + j]? = some (rowF x)) → chunkV H 4 xs.length (cellsF b xs) = some (xs.map Stp.pv)
  | [], b, _ => rfl
  | s :: t, b, h => by
    have h0 := h 0 s rfl
    have ih := view_cells (H := H) (xs := t) (b := b + 1) fun j x hj => by
      have := h (j + 1) x hj
      rw [show b + 1 + j = b + (j + 1) from by omega]
      exact this
    rw [Nat.add_zero] at h0
    rw [List.length_cons, chunkV]
    have e1 : (cellsF b (s :: t)).drop 4 = cellsF (b + 1) t := rfl
    have e2 : (cellsF b (s :: t)).take 4 = [.p (.str s.name), .p (.int .i64 s.ht), .own b 0 s.route.length, .p (.int .i64 s.mn)] := rfl
    rw [e1, e2, ih]
    have e3 : cellVs H [.p (.str s.name), .p (.int .i64 s.ht), .own b 0 s.route.length, .p (.int .i64 s.mn)] = some [.str s.name, .int .i64 s.ht, .sl 1 (s.route.map .str), .int .i64 s.mn] := by
      simp only [cellVs, cellV, h0, rowF, List.drop_zero]
      rw [List.take_of_length_le (by simp)]
    rw [e3]
    rfl
theorem rowK_e : rowK eRow = 4 := by decide
theorem view_nest {H : Heap} {i b n : Nat} {xs : List Stp} (hn : n = xs.length) (hb : H[i]? = some (.box eRow (cellsF b xs))) (h : ∀ j x, xs[j]? = some x → H[b + j]? = some (rowF x)) : viewOf H (.own i 0 n) = some (.sl 4 (xs.map Stp.pv)) := by
  subst hn
  rw [viewOf, hb]
  simp only [rowK_e]
  rw [if_pos (by rw [cells_len]; omega), view_cells h]
  rfl
theorem rows_get {xs : List Stp} {j : Nat} {x : Stp} (h : xs[j]? = some x) : (rowsF xs)[j]? = some (rowF x) := by
  unfold rowsF
  rw [List.getElem?_map, h]
  rfl
/-! names of rows -/
theorem addIds_all : ∀ {is acc : List Nat}, (∀ i ∈ is, i ∈ acc) → addIds acc is = acc
  | [], _, _ => rfl
  | i :: is, acc, h => by
    rw [addIds, if_pos (by simpa using h i (by simp))]
    exact addIds_all fun j hj => h j (by simp [hj])
theorem addIds_range {a : Nat} : ∀ {m : Nat}, addIds (List.range a) (List.range' a m) = List.range (a + m)
  | 0 => rfl
  | m + 1 => by
    have key : ∀ (m a : Nat), addIds (List.range a) (List.range' a m) = List.range (a + m) := by
      intro m
      induction m with
      | zero => intro a; rfl
      | succ m ih =>
        intro a
        rw [List.range'_succ, addIds, if_neg (by simp), ← List.range_succ, ih (a + 1)]
        congr 1
        omega
    exact key (m + 1) a
theorem refs_zc : ∀ n : Nat, refsL (zc n) = []
  | 0 => rfl
  | n + 1 => by simp only [zc, refsL, refs, refs_zc n, List.append_nil]
theorem refs_app : ∀ {xs ys : List DV}, refsL (xs ++ ys) = refsL xs ++ refsL ys
  | [], ys => rfl
  | x :: xs, ys => by simp only [List.cons_append, refsL, refs_app, List.append_assoc]
theorem refs_cells : ∀ {xs : List Stp} {b : Nat}, refsL (cellsF b xs) = List.range' b xs.length
  | [], b => rfl
  | s :: t, b => by
    simp only [cellsF, refsL, refs, List.nil_append, refs_cells (xs := t) (b := b + 1), List.length_cons, List.range'_succ]
    rfl
theorem ren_range {N i o l : Nat} (h : i < N) : ren (List.range N) (.own i o l) = .own i o l := by
  have hc : (List.range N).contains i = true := by simpa using h
  rw [ren, if_pos hc]
  congr 1
  have := idx_get hc
  rw [List.getElem?_range (by have := lt_of_get this; simpa using this)] at this
  exact Option.some.inj this
theorem renL_zc {ids : List Nat} : ∀ n : Nat, renL ids (zc n) = zc n
  | 0 => rfl
  | n + 1 => by simp only [zc, renL, ren, renL_zc n]
theorem renL_app {ids : List Nat} : ∀ {xs ys : List DV}, renL ids (xs ++ ys) = renL ids xs ++ renL ids ys
  | [], ys => rfl
  | x :: xs, ys => by simp only [List.cons_append, renL, renL_app]
theorem renL_cells {N : Nat} : ∀ {xs : List Stp} {b : Nat}, b + xs.length ≤ N → renL (List.range N) (cellsF b xs) = cellsF b xs
  | [], b, _ => rfl
  | s :: t, b, h => by
    simp only [List.length_cons] at h
    have ih := renL_cells (N := N) (xs := t) (b := b + 1) (by omega)
    simp only [cellsF, renL, ih]
    rw [ren_range (show b < N by omega)]
    rfl
theorem heap_id {H : Heap} {N : Nat} (hN : N = H.length) (h : ∀ ob ∈ H, renB (List.range N) ob = ob) : heapOf (List.range N) H = H := by
  subst hN
  unfold heapOf
  refine List.ext_getElem? fun i => ?_
  rw [List.getElem?_map]
  by_cases hi : i < H.length
  · rw [List.getElem?_range hi, Option.map_some, List.getD_eq_getElem?_getD, List.getElem?_eq_getElem hi, Option.getD_some, h _ (List.getElem_mem hi)]
  · rw [List.getElem?_eq_none (by simp; omega), List.getElem?_eq_none (by omega)]
    rfl
/-- the heap of such a row, filled up to some place -/
def nestH (xs : List Stp) (m : Nat) : Heap := .box eRow (cellsF 1 xs ++ zc m) :: rowsF xs
theorem nest_len {xs : List Stp} {m : Nat} : (nestH xs m).length = xs.length + 1 := by simp [nestH, rowsF]
theorem nest_id {xs : List Stp} {m : Nat} : heapOf (List.range (xs.length + 1)) (nestH xs m) = nestH xs m := by
  refine heap_id nest_len.symm fun ob ho => ?_
  unfold nestH rowsF at ho
  simp only [List.mem_cons, List.mem_map] at ho
  rcases ho with rfl | ⟨s, _, rfl⟩
  · rw [renB, renL_app, renL_zc, renL_cells (by omega)]
  · rfl
theorem nest_ids0 {ds : List DV} {xs : List Stp} {m : Nat} (hd : refsL ds = [0]) : idsOf 0 ds (nestH xs m) = List.range (xs.length + 1) := by
  unfold idsOf
  rw [hd]
  show addIds [0] ([0].flatMap (refsB (nestH xs m))) = _
  have e : [0].flatMap (refsB (nestH xs m)) = List.range' 1 xs.length := by
    simp only [List.flatMap_cons, List.flatMap_nil, List.append_nil]
    show refsL (cellsF 1 xs ++ zc m) = _
    rw [refs_app, refs_zc, List.append_nil, refs_cells]
  rw [e, Nat.add_comm]
  exact addIds_range (a := 1)
theorem nest_ids {ds : List DV} {xs : List Stp} {m : Nat} (hd : ∀ i ∈ refsL ds, i = 0) : idsOf (xs.length + 1) ds (nestH xs m) = List.range (xs.length + 1) := by
  unfold idsOf
  have e0 : addIds (List.range (xs.length + 1)) (refsL ds) = List.range (xs.length + 1) := addIds_all fun i hi => by rw [hd i hi]; simp
  simp only [e0]
  refine addIds_all fun i hi => ?_
  obtain ⟨j, hj, hij⟩ := List.mem_flatMap.1 hi
  unfold refsB at hij
  cases j with
  | zero =>
    have : i ∈ refsL (cellsF 1 xs ++ zc m) := hij
    rw [refs_app, refs_zc, List.append_nil, refs_cells, List.mem_range'_1] at this
    simp; omega
  | succ j =>
    have e : (nestH xs m)[j + 1]? = (xs[j]?).map rowF := by
      show (rowsF xs)[j]? = _
      unfold rowsF
      rw [List.getElem?_map]
    rw [e] at hij
    cases hx : xs[j]? with
    | none => rw [hx] at hij; simp at hij
    | some x => rw [hx] at hij; simp [rowF] at hij
end Go.Proofs.Ytchekagoaidlpaa

/- Law: from a contract to a given row; for every program of the model. Nothing here speaks of this translation. -/
import Derived.Test.YtdpmfgkmioaddaaDrawn
import Derived.Test.YtdpmfgkmioaddaaEv
import Derived.ProofKit
import Derived.OpenShut
import Derived.ShutString
import Derived.ChangeOld

namespace Go.Dv
open Go.RowKit

theorem emptyX (W : World) (b : Nat) : ¬ (⟨W, fun _ => False, [], []⟩ : Cx).X [] [] b := fun h => h.elim id (own_empty b)

/-- Plain arguments. -/
def Args (W : World) : List PV → List Value → Prop
  | [], vs => vs = []
  | x :: xs, vs => ∃ v vs', vs = v :: vs' ∧ RP W (fun _ => False) x v ∧ Args W xs vs'

theorem args_rel {W : World} : ∀ {xs : List PV} {vs : List Value}, Args W xs vs → RDt W ((⟨W, fun _ => False, [], []⟩ : Cx).X [] []) [] [] (xs.map .p) vs
  | [], vs, h => by unfold Args at h; subst h; simp only [List.map_nil]; unfold RDt; rfl
  | x :: xs, vs, h => by
    unfold Args at h
    obtain ⟨v, vs', rfl, h1, h2⟩ := h
    simp only [List.map_cons]
    unfold RDt
    refine ⟨v, vs', rfl, ?_, args_rel h2⟩
    unfold RD
    exact RP_mono ⟨Nat.le_refl _, fun b _ _ => ⟨rfl, emptyX W b⟩⟩ _ _ h1

/-- A law's contract, as its row asks it. -/
theorem law_calls {P : Program} {f : FuncId} {xs : List PV} {vs : List Value} {W : World} (h : Ok P f (xs.map .p) [] fun d _ => d = .p (.bool true)) (ha : Args W xs vs) :
    Calls P f vs.toArray W fun e W' => e = .returned (.bool true) ∧ Below W.heap.size W W' := by
  refine (h W (fun _ => False) [] vs (fun b hb => hb.elim) (hrel_empty _) (args_rel ha)).mono fun e w' hh => ?_
  obtain ⟨v, d, H', ρ', rfl, rfl, k1, k2, k3, k4⟩ := hh
  refine ⟨by rw [rp_bool k2], k3.os, k3.tape, k3.output, k3.size, fun b hb => (k3.keep b hb (own_empty b)).1⟩

/-- The numbers of a slice. -/
abbrev slI (k : IntKind) (xs : List Int) : PV := .sl 1 (xs.map (.int k))

/-- What is told of a slice of integers that came in. -/
def IsRow (k : IntKind) (w : World) (a : Option Addr) (len cap : Nat) (zs : List Int) : Prop :=
  (a = none ∧ len = 0 ∧ cap = 0 ∧ zs = []) ∨
  ∃ x, a = some x ∧ len ≤ cap ∧ cap ≤ maxLen ∧ zs.length = cap ∧ (∀ i, i < zs.length → w.cell? (x.add i) = some (.int k (zs.getD i 0))) ∧ ∀ n ∈ zs, (Lit.int k n).wf = true

theorem spot_of_cell {w : World} {x : Addr} {v : Value} (h : w.cell? (x.add 0) = some v) : x.spot = none := by
  have : x.add 0 = x := by simp [Addr.add]
  rw [this] at h
  cases hs : x.spot with
  | none => rfl
  | some s =>
    exfalso
    unfold World.cell? at h
    rw [hs] at h
    split at h
    · simp at h
    · cases h

theorem row_rel {k : IntKind} {w : World} {a : Option Addr} {len cap : Nat} {zs : List Int} (h : IsRow k w a len cap zs) : RP w (fun _ => False) (slI k (zs.take len)) (.slice a len cap) ∧ ∀ n ∈ zs.take len, (Lit.int k n).wf = true := by
  rcases h with ⟨rfl, rfl, rfl, rfl⟩ | ⟨x, rfl, h1, h2, h3, h4, h5⟩
  · refine ⟨?_, by simp⟩
    unfold slI RP
    exact ⟨none, 0, rfl, Nat.le_refl _, Nat.zero_le _, fun h => absurd rfl h⟩
  · refine ⟨?_, fun n hn => h5 n (List.mem_of_mem_take hn)⟩
    have hlen : ((zs.take len).map (PV.int k)).length = len := by simp; omega
    unfold slI RP
    rw [hlen]
    refine ⟨some x, cap, rfl, h1, h2, fun hne => ?_⟩
    have hl0 : 0 < len := by
      rcases Nat.eq_zero_or_pos len with h0 | h0
      · exact absurd (List.eq_nil_of_length_eq_zero (by rw [hlen, h0])) hne
      · exact h0
    have hc0 := h4 0 (by omega)
    obtain ⟨b, o, sp⟩ := x
    have hsp : sp = none := spot_of_cell hc0
    subst hsp
    refine ⟨b, o, rfl, World.block_lt_of_cell? w _ (show w.cell? ⟨b, o, none⟩ = _ by simpa [Addr.add] using hc0), fun h => h, RRow_of_get fun j y hy => ?_⟩
    rw [List.getElem?_map, Option.map_eq_some_iff] at hy
    obtain ⟨n, hn, rfl⟩ := hy
    rw [List.getElem?_take] at hn
    split at hn
    · rename_i hj
      have hjl := lt_of_get hn
      have := h4 j hjl
      rw [add_mk] at this
      refine ⟨[.int k n], rfl, fun i u hu => ?_, by unfold RE; rfl⟩
      cases i with
      | zero =>
        simp at hu
        subst hu
        simp only [Nat.mul_one, Nat.add_zero]
        rw [this, List.getD_eq_getElem?_getD, hn]
        rfl
      | succ i => simp at hu
    · cases hn

end Go.Dv

namespace Go.Dv

/-- A contract that tells the result outright. -/
abbrev Okv (P : Program) (f : FuncId) (xs : List PV) (d : DV) : Prop := Ok P f (xs.map .p) [] fun d' H => d' = d ∧ H = []

/-- A contract over plain arguments. -/
abbrev Okw (P : Program) (f : FuncId) (xs : List PV) (Q : DV → Heap → Prop) : Prop := Ok P f (xs.map .p) [] Q

theorem argsB_view {H : Heap} : ∀ {args : List DV} {xs : List PV}, viewOfs H args = some xs → ArgsB H args (xs.map .p)
  | [], xs, h => by
    unfold viewOfs at h
    obtain rfl := Option.some.inj h
    rfl
  | d :: ds, xs, h => by
    unfold viewOfs at h
    split at h
    · rename_i x xs' h1 h2
      obtain rfl := Option.some.inj h
      exact ⟨.p x, xs'.map .p, rfl, ⟨x, h1, rfl⟩, argsB_view h2⟩
    · cases h

theorem argsP_pv {ids : List Nat} : ∀ {args : List DV} {xs : List PV}, pvOfs args = some xs → ArgsP ids args (xs.map .p)
  | [], xs, h => by
    unfold pvOfs at h
    obtain rfl := Option.some.inj h
    rfl
  | d :: ds, xs, h => by
    unfold pvOfs at h
    split at h
    · rename_i x xs' h1 h2
      obtain rfl := Option.some.inj h
      exact ⟨.p x, xs'.map .p, rfl, .inr ⟨x, h1, rfl⟩, argsP_pv h2⟩
    · cases h

mutual
theorem det_flat : ∀ {x : PV}, detP x → flatP x
  | .int _ _, _ => trivial
  | .bool _, _ => trivial
  | .str _, _ => trivial
  | .sl _ _, h => h.elim
  | .agg cs, h => det_flats (cs := cs) (by simpa [detP] using h)
theorem det_flats : ∀ {cs : List PV}, detPs cs → flatPs cs
  | [], _ => trivial
  | x :: xs, h => by
    unfold detPs at h
    unfold flatPs
    exact ⟨det_flat h.1, det_flats h.2⟩
end
mutual
theorem detD_flat : ∀ {d : DV}, detD d → flatD d
  | .p x, h => by unfold detD at h; unfold flatD; exact det_flat h
  | .tup ds, h => by unfold detD at h; unfold flatD; exact detD_flats h
  | .any, h => by simp [detD] at h
  | .undef, h => by simp [detD] at h
  | .nil, h => by simp [detD] at h
  | .own _ _ _, h => by simp [detD] at h
  | .ptr _ _ _, h => by simp [detD] at h
  | .rptr _ _ _ _, h => by simp [detD] at h
  | .agg _, h => by simp [detD] at h
theorem detD_flats : ∀ {ds : List DV}, detDs ds → flatDs ds
  | [], _ => trivial
  | d :: ds, h => by
    unfold detDs at h
    unfold flatDs
    exact ⟨detD_flat h.1, detD_flats h.2⟩
end
mutual
theorem det_bk {ids : List Nat} {n : Nat} : ∀ {d : DV}, detD d → bk ids n d = d
  | .p x, _ => rfl
  | .tup ds, h => by unfold detD at h; simp only [bk, det_bks h]
  | .any, h => by simp [detD] at h
  | .undef, h => by simp [detD] at h
  | .nil, h => by simp [detD] at h
  | .own _ _ _, h => by simp [detD] at h
  | .ptr _ _ _, h => by simp [detD] at h
  | .rptr _ _ _ _, h => by simp [detD] at h
  | .agg _, h => by simp [detD] at h
theorem det_bks {ids : List Nat} {n : Nat} : ∀ {ds : List DV}, detDs ds → bkL ids n ds = ds
  | [], _ => rfl
  | d :: ds, h => by
    unfold detDs at h
    simp only [bkL, det_bk h.1, det_bks h.2]
end

section
variable {P : Program} {nin : Nat} {f : FuncId} {args : List DV} {H : Heap} {s : Stk} {d : Option Nat} {os : List GOp} {env : Env} {q : Bool}

/-- A call whose contract tells the result: our own rows are lent. -/
theorem Rm_v {xs : List PV} {d0 : DV} (h : Okv P f xs d0) (hv : viewOfs H args = some xs) (hd : detD d0) (h2 : Sm (mdP P nin) q (asked d os) d0 d os s env H) :
    Rm (mdP P nin) q (.call f args H) d os s env := by
  cases q with
  | true => exact ⟨xs.map .p, d0, h, argsB_view hv, hd, h2⟩
  | false =>
    refine ⟨[], xs.map .p, _, List.nodup_nil, by simp, h, .inr ⟨rfl, argsB_view hv, fun d' H2 hq => ?_⟩⟩
    obtain ⟨rfl, rfl⟩ := hq
    refine ⟨detD_flat hd, trivial, ?_⟩
    rw [det_bk hd]
    simpa [mergeH, putAll] using h2

/-- the same, the view first -/
theorem Rm_w {xs : List PV} {d0 : DV} (hv : viewOfs H args = some xs) (h : Okv P f xs d0) (hd : detD d0) (h2 : Sm (mdP P nin) q (asked d os) d0 d os s env H) :
    Rm (mdP P nin) q (.call f args H) d os s env := Rm_v h hv hd h2

/-- A call with plain arguments, whatever comes back. -/
theorem Rm_o {xs : List PV} {Q : DV → Heap → Prop} (h : Okw P f xs Q) (hv : pvOfs args = some xs)
    (h2 : ∀ r H2, Q r H2 → Sm (mdP P nin) false (asked d os) (bk [] H.length r) d os s env (H ++ H2.map (bkB [] H.length))) :
    Rm (mdP P nin) false (.call f args H) d os s env := by
  refine ⟨[], xs.map .p, _, List.nodup_nil, by simp, h, .inl ⟨argsP_pv hv, fun d' H2 hq => ?_⟩⟩
  have := h2 d' H2 hq
  simpa [mergeH, putAll] using this

/-- The same with our own rows lent: what comes back must not hold them. -/
theorem Rm_l {xs : List PV} {Q : DV → Heap → Prop} (h : Okw P f xs Q) (hv : viewOfs H args = some xs)
    (h2 : ∀ r H2, Q r H2 → flatD r ∧ flatH H2 ∧ Sm (mdP P nin) false (asked d os) (bk [] H.length r) d os s env (H ++ H2.map (bkB [] H.length))) :
    Rm (mdP P nin) false (.call f args H) d os s env := by
  refine ⟨[], xs.map .p, _, List.nodup_nil, by simp, h, .inr ⟨rfl, argsB_view hv, fun d' H2 hq => ?_⟩⟩
  obtain ⟨h3, h4, h5⟩ := h2 d' H2 hq
  exact ⟨h3, h4, by simpa [mergeH, putAll] using h5⟩

/-- A call to which our own rows 'ids' are handed. -/
theorem Rm_i (ids : List Nat) {args' : List DV} {Q : DV → Heap → Prop} (h : Ok P f args' (heapOf ids H) Q) (hn : ids.Nodup) (hb : ∀ i ∈ ids, i < H.length) (ha : ArgsP ids args args')
    (h2 : ∀ r H2, Q r H2 → Sm (mdP P nin) false (asked d os) (bk ids H.length r) d os s env (mergeH ids H H2)) :
    Rm (mdP P nin) false (.call f args H) d os s env :=
  ⟨ids, args', _, hn, hb, h, .inl ⟨ha, h2⟩⟩

/-- A function's end. -/
theorem ret_gen {M : Md} {rs : List RV} {Q : DV → Heap → Prop} (e d' : DV) (H' : Heap) (h : resD env H rs = some e) (h1 : ren (idsOf nin [e] H) e = d') (h2 : heapOf (idsOf nin [e] H) H = H') (h3 : Q d' H') :
    Xm M .ret (.top (retQ nin rs Q)) env H := by
  show retK nin rs Q env H
  unfold retK
  rw [h]
  show Q _ _
  rw [h1, h2]
  exact h3
/-- A function's end with one plain value. -/
theorem ret_p {M : Md} {n : Nat} {x : PV} {Q : DV → Heap → Prop} (h : get env n = .p x) (h3 : Q (.p x) []) : Xm M .ret (.top (retQ 0 [.t n] Q)) env H := by
  refine ret_gen (.p x) (.p x) [] ?_ rfl ?_ h3
  · simp [resD, resAll, resOne, h]
  · simp [idsOf, addIds, heapOf, refsL, refs]
end

mutual
theorem det_refs : ∀ {d : DV}, detD d → refs d = []
  | .p x, _ => rfl
  | .tup ds, h => by unfold detD at h; simp only [refs, det_refss h]
  | .any, h => by simp [detD] at h
  | .undef, h => by simp [detD] at h
  | .nil, h => by simp [detD] at h
  | .own _ _ _, h => by simp [detD] at h
  | .ptr _ _ _, h => by simp [detD] at h
  | .rptr _ _ _ _, h => by simp [detD] at h
  | .agg _, h => by simp [detD] at h
theorem det_refss : ∀ {ds : List DV}, detDs ds → refsL ds = []
  | [], _ => rfl
  | d :: ds, h => by
    unfold detDs at h
    simp only [refsL, det_refs h.1, det_refss h.2, List.append_nil]
end
mutual
theorem det_ren {ids : List Nat} : ∀ {d : DV}, detD d → ren ids d = d
  | .p x, _ => rfl
  | .tup ds, h => by unfold detD at h; simp only [ren, det_rens h]
  | .any, h => by simp [detD] at h
  | .undef, h => by simp [detD] at h
  | .nil, h => by simp [detD] at h
  | .own _ _ _, h => by simp [detD] at h
  | .ptr _ _ _, h => by simp [detD] at h
  | .rptr _ _ _ _, h => by simp [detD] at h
  | .agg _, h => by simp [detD] at h
theorem det_rens {ids : List Nat} : ∀ {ds : List DV}, detDs ds → renL ids ds = ds
  | [], _ => rfl
  | d :: ds, h => by
    unfold detDs at h
    simp only [renL, det_ren h.1, det_rens h.2]
end
/-- A function's end with a plain value that is told. -/
theorem ret_okv {M : Md} {env : Env} {H : Heap} {rs : List RV} {d0 : DV} (hd : detD d0) (h : resD env H rs = some d0) : Xm M .ret (.top (retQ 0 rs fun d' H => d' = d0 ∧ H = [])) env H := by
  refine ret_gen d0 d0 [] h (det_ren hd) ?_ ⟨rfl, rfl⟩
  simp [idsOf, addIds, refsL, det_refs hd, heapOf]

theorem backI_nil {n j : Nat} : backI [] n j = n + j := by simp [backI]
attribute [go_sem] resD resAll resOne backI_nil bk bkL bkB mergeH putAll List.take_succ_cons List.take_zero List.drop_succ_cons List.drop_zero List.append_nil

theorem flat_int {k : IntKind} : ∀ {xs : List Int}, flatPs (xs.map (.int k))
  | [] => trivial
  | _ :: xs => ⟨trivial, flat_int (xs := xs)⟩
theorem flatH_one {b : OB} (h : flatB b) : flatH [b] := ⟨h, trivial⟩

theorem args_nil {W : World} : Args W [] [] := by unfold Args; rfl
theorem args_cons {W : World} {x : PV} {xs : List PV} {v : Value} {vs : List Value} (h : RP W (fun _ => False) x v) (h2 : Args W xs vs) : Args W (x :: xs) (v :: vs) := by
  unfold Args
  exact ⟨v, vs, rfl, h, h2⟩
theorem arg_int {W : World} {k : IntKind} {n : Int} : RP W (fun _ => False) (.int k n) (.int k n) := by unfold RP; rfl
theorem arg_bool {W : World} {b : Bool} : RP W (fun _ => False) (.bool b) (.bool b) := by unfold RP; rfl

/-- A law's contract, as its row asks it. -/
theorem law_v {P : Program} {f : FuncId} {xs : List PV} {vs : List Value} {W : World} (h : Okv P f xs (.p (.bool true))) (ha : Args W xs vs) :
    Calls P f vs.toArray W fun e W' => e = .returned (.bool true) ∧ Go.RowKit.Below W.heap.size W W' :=
  law_calls (h.mono fun _ _ hq => hq.1) ha

/-- The given way in: a contract by its verification condition. -/
theorem ok_D {P : Program} (hmix : P.follows .mixedOrders = true) {f : FuncId} {args : List DV} {Hin : Heap} {Q : DV → Heap → Prop} {np nt : Nat} {rs : List RV} {ir : DC} (hc : compFn P f = some ⟨np, nt, rs, ir⟩)
    (hl : args.length ≤ nt) (h : Dm (mdP P Hin.length) ir (.top (retQ Hin.length rs Q)) (envOf args) Hin) : Ok P f args Hin Q :=
  ok_of_D hmix (sane _) rfl hc h hl

end Go.Dv

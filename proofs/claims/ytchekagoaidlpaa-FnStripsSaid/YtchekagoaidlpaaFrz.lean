import Derived.Test.YtchekagoaidlpaaNilOwn
namespace Go.Proofs.Ytchekagoaidlpaa
open Go.Dv

/-! ### rows of our own that a function hands back, seen as plain ones -/
def isPl : OB → Prop
  | .box _ cs => ∃ xs, pvOfs cs = some xs
  | _ => True
def hid (n : Nat) (H : Heap) : Heap := List.replicate n .dead ++ H.drop n
section
variable {w : World} {X X' : Nat → Prop} {ρ ρ' : Rho} {H H' : Heap}
mutual
theorem pl_RD (hp : Pres w X w X') : ∀ {d : DV} {x : PV} {v : Value}, pvOf d = some x → RD w X ρ H d v → RD w X' ρ' H' d v
  | .p y, x, v, _, h => by unfold RD at h ⊢; exact RP_mono hp _ _ h
  | .nil, x, v, _, h => by unfold RD at h ⊢; exact h
  | .agg cs, x, v, he, h => by
    simp only [pvOf, Option.map_eq_some_iff] at he
    obtain ⟨xs, he, rfl⟩ := he
    unfold RD at h ⊢
    obtain ⟨us, hv, h1⟩ := h
    exact ⟨us, hv, pl_RDs hp he h1⟩
  | .any, x, v, he, _ => by simp [pvOf] at he
  | .undef, x, v, he, _ => by simp [pvOf] at he
  | .own .., x, v, he, _ => by simp [pvOf] at he
  | .ptr .., x, v, he, _ => by simp [pvOf] at he
  | .rptr .., x, v, he, _ => by simp [pvOf] at he
  | .tup .., x, v, he, _ => by simp [pvOf] at he
theorem pl_RDs (hp : Pres w X w X') : ∀ {ds : List DV} {xs : List PV} {vs : List Value}, pvOfs ds = some xs → RDs w X ρ H ds vs → RDs w X' ρ' H' ds vs
  | [], xs, vs, he, h => by unfold RDs at h ⊢; exact h
  | d :: ds, xs, vs, he, h => by
    simp only [pvOfs] at he
    cases h1 : pvOf d with
    | none => simp [h1] at he
    | some y =>
      cases h2 : pvOfs ds with
      | none => simp [h1, h2] at he
      | some ys =>
        unfold RDs at h ⊢
        obtain ⟨v, vs', hv, g1, g2, g3⟩ := h
        exact ⟨v, vs', hv, g1, pl_RD hp h1 g2, pl_RDs hp h2 g3⟩
end
theorem viewt {Hv : Heap} (vs : Vis w X ρ H X' Hv) : ∀ {ds : List DV} {xs : List PV} {us : List Value}, viewOfs Hv ds = some xs → RDt w X ρ H ds us → RDt w X' ρ' H' (xs.map .p) us
  | [], xs, us, he, h => by
    simp [viewOfs] at he
    subst he
    unfold RDt at h ⊢
    exact h
  | d :: ds, xs, us, he, h => by
    simp only [viewOfs] at he
    cases h1 : viewOf Hv d with
    | none => simp [h1] at he
    | some y =>
      cases h2 : viewOfs Hv ds with
      | none => simp [h1, h2] at he
      | some ys =>
        simp [h1, h2] at he
        subst he
        simp only [List.map_cons]
        unfold RDt at h ⊢
        obtain ⟨v, us', hv, g1, g2⟩ := h
        exact ⟨v, us', hv, by unfold RD; exact view_rel vs h1 g1, viewt vs h2 g2⟩
theorem own_take {n : Nat} {b : Nat} (h : ownB (ρ.take n) (H.take n) b) : ownB ρ H b := by
  obtain ⟨i, ob, h1, h2, h3⟩ := h
  rw [List.getElem?_take] at h1 h3
  split at h1
  · rename_i hi
    rw [if_pos hi] at h3
    exact ⟨i, ob, h1, h2, h3⟩
  · cases h1
theorem take_at {α : Type} {l : List α} {n i : Nat} {a : α} (h : (l.take n)[i]? = some a) : i < n ∧ l[i]? = some a := by
  rw [List.getElem?_take] at h
  split at h
  · exact ⟨by assumption, h⟩
  · cases h
theorem at_take {α : Type} {l : List α} {n i : Nat} (h : i < n) : (l.take n)[i]? = l[i]? := by rw [List.getElem?_take, if_pos h]
end
/-- What is handed back, plain. -/
def frzR (n : Nat) (H : Heap) (d e : DV) : Prop := (∃ x, viewOf (hid n H) d = some x ∧ e = .p x) ∨ ∃ ds xs, d = .tup ds ∧ viewOfs (hid n H) ds = some xs ∧ e = .tup (xs.map .p)
theorem ok_frz {P : Program} {f : FuncId} {args : List DV} {Hin : Heap} {Q Q' : DV → Heap → Prop} (h : Ok P f args Hin Q)
    (hq : ∀ d H, Q d H → (∀ ob ∈ H.take Hin.length, isPl ob) ∧ ∃ e, frzR Hin.length H d e ∧ Q' e (H.take Hin.length)) : Ok P f args Hin Q' := by
  intro w O0 ρ vs h1 h2 h3
  refine (h w O0 ρ vs h1 h2 h3).mono fun ex w' hh => ?_
  obtain ⟨v, d, H', ρ', a, b, g1, g2, g3, g4⟩ := hh
  obtain ⟨hpl, e, he, hQ⟩ := hq d H' b
  have hl2 : Hin.length ≤ H'.length := by
    rcases Nat.lt_or_ge H'.length Hin.length with h | h
    · exfalso
      have hg := List.getElem?_eq_getElem h
      have hn : H'[H'.length]? = none := by simp
      cases hob : Hin[H'.length] with
      | dead => rw [hob] at hg; have := g4.dead _ hg; rw [hn] at this; cases this
      | arr e k xs => rw [hob] at hg; rcases g4.arr _ _ _ _ hg with h' | ⟨_, h', _⟩ <;> rw [hn] at h' <;> cases h'
      | box e cs => rw [hob] at hg; rcases g4.box _ _ _ hg with h' | ⟨_, h'⟩ <;> rw [hn] at h' <;> cases h'
      | iter s p => rw [hob] at hg; rcases g4.iter _ _ _ hg with h' | ⟨_, h'⟩ <;> rw [hn] at h' <;> cases h'
    · exact h
  generalize hn : Hin.length = n at *
  have hp : Pres w' ((⟨w, O0, ρ, Hin⟩ : Cx).X ρ' H') w' ((⟨w, O0, ρ, Hin⟩ : Cx).X (ρ'.take n) (H'.take n)) := ⟨Nat.le_refl _, fun b _ hx => ⟨rfl, fun h => hx (h.imp id own_take)⟩⟩
  have vis : Vis w' ((⟨w, O0, ρ, Hin⟩ : Cx).X ρ' H') ρ' H' ((⟨w, O0, ρ, Hin⟩ : Cx).X (ρ'.take n) (H'.take n)) (hid n H') := by
    refine ⟨g1, hp, fun i ob hi hl => ?_⟩
    have hin : n ≤ i ∧ H'[i]? = some ob := by
      unfold hid at hi
      by_cases hin : i < n
      · rw [List.getElem?_append_left (by simpa using hin), List.getElem?_replicate, if_pos hin] at hi
        injection hi with hi
        subst hi
        cases hl
      · rw [List.getElem?_append_right (by simp; omega), List.getElem?_drop, List.length_replicate] at hi
        rw [show n + (i - n) = i from by omega] at hi
        exact ⟨by omega, hi⟩
    refine ⟨hin.2, fun b hb hX => ?_⟩
    rcases hX with hX | ⟨j, oj, k1, k2, k3⟩
    · obtain ⟨m1, m2⟩ := h1 b hX
      exact (g3.keep b m1 m2).2 ⟨i, ob, hin.2, hl, hb⟩
    · obtain ⟨m1, m2⟩ := take_at k1
      obtain ⟨_, m3⟩ := take_at k3
      have := g1.inj i j b ob oj hin.2 hl m2 k2 hb m3
      omega
  refine ⟨v, e, H'.take n, ρ'.take n, a, hQ, ⟨by simp [g1.len], fun i ob hi => ?_, fun i j b oi oj hi li hj lj ri rj => ?_, fun b hb => .inr hb⟩, ?_, ⟨g3.os, g3.tape, g3.output, g3.size, fun b hb hx => ⟨(g3.keep b hb hx).1, fun h => (g3.keep b hb hx).2 (own_take h)⟩⟩, ?_⟩
  · obtain ⟨hin, hi'⟩ := take_at hi
    have h := g1.ob i ob hi'
    have hr : (ρ'.take n)[i]? = ρ'[i]? := at_take hin
    cases ob with
    | dead => trivial
    | arr e k xs =>
      obtain ⟨hk, h⟩ := h
      refine ⟨hk, ?_⟩
      rw [hr]
      rcases h with h | ⟨b, cur, a1, a2, a3, a4⟩
      · exact .inl h
      · exact .inr ⟨b, cur, a1, a2, a3, RRow_mono hp k b rfl 0 xs a4⟩
    | box e cs =>
      obtain ⟨b, cur, a1, a2, a3⟩ := h
      obtain ⟨xs, hx⟩ := hpl _ (List.mem_of_getElem? hi)
      exact ⟨b, cur, hr.trans a1, a2, pl_RDs hp hx a3⟩
    | iter s p =>
      obtain ⟨b, a1, a2⟩ := h
      exact ⟨b, hr.trans a1, a2⟩
  · exact g1.inj i j b oi oj (take_at hi).2 li (take_at hj).2 lj (take_at ri).2 (take_at rj).2
  · rcases he with ⟨x, hx, rfl⟩ | ⟨ds, xs, rfl, hx, rfl⟩
    · unfold RD
      exact view_rel vis hx g2
    · unfold RD at g2 ⊢
      obtain ⟨us, hv, hr⟩ := g2
      exact ⟨us, hv, viewt vis hx hr⟩
  · refine ⟨fun i hi => by rw [at_take (by omega)]; exact g4.rho i hi, fun i hi => by rw [at_take (by have := lt_of_get hi; omega)]; exact g4.dead i hi, fun i e k xs hi => ?_, fun i e cs hi => ?_, fun i s p hi => ?_⟩
    · rw [at_take (by have := lt_of_get hi; omega)]
      exact g4.arr i e k xs hi
    · rw [at_take (by have := lt_of_get hi; omega)]
      exact g4.box i e cs hi
    · rw [at_take (by have := lt_of_get hi; omega)]
      exact g4.iter i s p hi
end Go.Proofs.Ytchekagoaidlpaa

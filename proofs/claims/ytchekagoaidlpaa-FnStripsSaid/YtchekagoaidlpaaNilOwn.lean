import Derived.Test.YtchekagoaidlpaaBase
namespace Go.Proofs.Ytchekagoaidlpaa
open Go.Dv

theorem no_own {e : TypeId} {k b : Nat} : ¬ ownB [none] [.arr e k []] b := by
  rintro ⟨i, ob, h1, _, h3⟩
  cases i with
  | zero => simp at h3
  | succ i => simp at h1
/-- The same of a row handed back alone. -/
theorem nil_own1 {P : Program} {f : FuncId} {xs : List PV} {Q Q' : DV → Heap → Prop} (e k : Nat) (hk : 0 < k) (h : Okw P f xs Q)
    (hq : ∀ d H, Q d H → Q' d H ∨ (d = .nil ∧ H = [] ∧ Q' (.own 0 0 0) [.arr e k []])) : Okw P f xs Q' := by
  intro w O0 ρ vs h1 h2 h3
  refine (h w O0 ρ vs h1 h2 h3).mono fun ex w' hh => ?_
  obtain ⟨v, d, H', ρ', a, b, g1, g2, g3, g4⟩ := hh
  rcases hq d H' b with hq | ⟨rfl, rfl, hq⟩
  · exact ⟨v, d, H', ρ', a, hq, g1, g2, g3, g4⟩
  · refine ⟨v, _, _, [none], a, hq, ⟨rfl, fun i ob hi => ?_, fun i j b' oi oj _ _ hj _ r1 _ => ?_, fun b' hb => absurd hb no_own⟩, ?_, ⟨g3.os, g3.tape, g3.output, g3.size, fun b' hb hn => ⟨(g3.keep b' hb hn).1, no_own⟩⟩, ⟨fun i hi => by simp at hi, fun i hi => by simp at hi, fun i e' k' xs' hi => by simp at hi, fun i e' cs hi => by simp at hi, fun i s p hi => by simp at hi⟩⟩
    · cases i with
      | zero =>
        simp at hi
        subst hi
        exact ⟨hk, .inl ⟨rfl, rfl⟩⟩
      | succ i => simp at hi
    · cases i with
      | zero => simp at r1
      | succ i => simp at r1
    · unfold RD at g2
      subst g2
      unfold RD ownRel
      exact ⟨Nat.le_refl _, none, 0, rfl, Nat.le_refl _, Nat.zero_le _, .inl ⟨rfl, rfl, rfl, rfl⟩⟩
end Go.Proofs.Ytchekagoaidlpaa

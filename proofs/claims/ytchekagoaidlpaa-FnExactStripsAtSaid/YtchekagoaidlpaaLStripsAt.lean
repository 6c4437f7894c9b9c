/- The given row of FnExactStripsAt: whatever its arguments are, it returns true, and each argument reads afterwards as it read before. -/
import Derived.Test.YtchekagoaidlpaaRows
import Derived.Test.YtchekagoaidlpaaNest6
import Derived.WalkKit
import Derived.ProofKit
import Derived.OpenShut
import Derived.ShutString
import Derived.ChangeOld
import Derived.Below
namespace Go.Proofs.Ytchekagoaidlpaa.fnExactStripsAtDone
open Go.Dv Go.ChangeShapes Go.WideShapes Go.ChangeAt Go.RowKit
open Go.ChangeMaps (open_string shut_string)

theorem own : ownKnob Try.prog.godebug = none := by kernel_rfl
theorem laidOut : laidOutB Try.prog = true := by kernel_rfl

set_option maxRecDepth 100000 in
theorem lifted (os : Os) (started : os.Started) (H : Type) (enc : TypeId × Value → H) :
    ReturnsInHanded {} Try.checked os 9 .any (Rows.fnExactStripsAtSpec.pre6 enc Try.prog Try.f9 Rows.fnExactStripsAtRow.domain false) (Rows.fnExactStripsAtSpec.post enc Try.prog Try.f9 false true false false) := by
  refine returnsInHanded_of_change (C := Try.checked) own started (by kernel_rfl) Try.func9
    (ChangeSpec.witness6 (enc := enc) (C := Try.checked) false ⟨#[], #[.slice none 0 0, .string ⟨#[]⟩, .int .i64 0, .int .i64 0], []⟩ 8 (by kernel_rfl) (by kernel_rfl) (by kernel_rfl) (by kernel_rfl)) ?_
  intro W base args ds gs before hval0 hW hcnd _
  have hval : ∀ (j : Nat) t v, Try.f9.params[j]? = some t → args[j]? = some v → Value.okWide Try.prog W .any base t v := hval0
  have hW' := hW
  obtain ⟨p, q, hA0, hV, rfl, hfz, hnd⟩ := hW
  have hA : DataW.TrodAll enc Try.prog W 0 (fun _ => true) true Try.f9.params.toList args.toList ds p := hA0
  rw [Try.params9] at hA hval
  obtain ⟨v0, vs0, d0, ds0, p0, q0, hargs, rfl, rfl, h0, r0⟩ := trodAll_cons hA
  obtain ⟨v1, vs1, d1, ds1, p1, q1, rfl, rfl, rfl, h1, r1⟩ := trodAll_cons r0
  obtain ⟨v2, vs2, d2, ds2, p2, q2, rfl, rfl, rfl, h2, r2⟩ := trodAll_cons r1
  obtain ⟨v3, vs3, d3, ds3, p3, q3, rfl, rfl, rfl, h3, r3⟩ := trodAll_cons r2
  obtain ⟨rfl, rfl, rfl⟩ := trodAll_nil r3
  obtain rfl : args = #[v0, v1, v2, v3] := by cases args; simp_all
  obtain ⟨rfl, rfl⟩ := trodVars_none hV
  obtain ⟨a0, len0, cap0, rfl⟩ := okWide_slice (Try.underlying46) (hval 0 46 v0 rfl rfl)
  have k0 := h0
  have lt0 : ∀ x ∈ p0, x.block < W.heap.size := by obtain ⟨m, hm⟩ := k0; exact DataW.trod_lt m _ _ _ hm
  obtain ⟨x0, y0, e0⟩ := open_arg (n := 8) (v := .slice a0 len0 cap0) (show plainT Try.prog 8 46 = true by kernel_rfl) (show aggB Try.prog 46 = false by kernel_rfl) h0
  obtain ⟨u0, g0, b0⟩ := open_Strips y0
  rw [g0] at e0
  obtain ⟨c1, rfl⟩ := okWide_string (Try.underlying9) (hval 1 9 v1 rfl rfl)
  have k1 := h1
  have lt1 : ∀ x ∈ p1, x.block < W.heap.size := by obtain ⟨m, hm⟩ := k1; exact DataW.trod_lt m _ _ _ hm
  obtain ⟨x1, y1, e1⟩ := open_arg (n := 8) (v := .string c1) (show plainT Try.prog 8 9 = true by kernel_rfl) (show aggB Try.prog 9 = false by kernel_rfl) h1
  obtain ⟨u1, rfl, b1⟩ := pty_str (Try.underlying9) y1
  rw [show mkEl (aggB Try.prog 9) [PV.str u1] = PV.str u1 from by rw [(by kernel_rfl : aggB Try.prog 9 = false)]; rfl] at e1
  obtain ⟨a2, rfl, rfl, rfl, b2⟩ := open_int (Try.underlying3) (hval 2 3 v2 rfl rfl) h2
  obtain ⟨a3, rfl, rfl, rfl, b3⟩ := open_int (Try.underlying3) (hval 3 3 v3 rfl rfl) h3
  clear hA0 hval0
  refine (law_v (P := Try.prog) (k_FnExactStripsAt u0 b0 u1 b1 a2 (wf64 b2) a3 (wf64 b3)) (args_cons e0 (args_cons e1 (args_cons arg_int (args_cons arg_int args_nil))))).mono fun e W' ⟨he, bel⟩ => ?_
  subst he
  exact ⟨_, rfl, _, _, _, [], _, [], hW', trodAll_mk1 (shut_bool (Try.underlying4) _), (trodAll_cons_mk (Below.trod laidOut (by kernel_rfl) (of_decide_eq_true (by kernel_rfl)) k0 bel lt0) (trodAll_cons_mk (Below.trod laidOut (by kernel_rfl) (of_decide_eq_true (by kernel_rfl)) k1 bel lt1) (trodAll_cons_mk (shut_int (Try.underlying3) b2) (trodAll_cons_mk (shut_int (Try.underlying3) b3) trodAll_mk0)))), rfl, bel.frame _, fun h => by cases h⟩

theorem over : Rows.fnExactStripsAtRow.holds Try.pinned (OpenSpec.ofChange Rows.fnExactStripsAtSpec) :=
  OpenClaim.holds_of_wide 9 Try.f9 rfl rfl rfl rfl rfl rfl rfl ⟨rfl, rfl, rfl, rfl, rfl⟩ rfl rfl rfl rfl rfl (by kernel_rfl) Try.func9 (by kernel_rfl)
    (of_decide_eq_true (by kernel_rfl)) (by unfold Func.isWrapper; first | (rw [if_pos (by decide +kernel)]; kernel_rfl) | (rw [if_neg (by decide +kernel)]; exact ⟨rfl, rfl⟩))
    (fun os started H enc _ => lifted os started H enc)

/-- THE STATEMENT -/
theorem proved : Rows.FnExactStripsAtSaid := over
#print axioms proved
end Go.Proofs.Ytchekagoaidlpaa.fnExactStripsAtDone

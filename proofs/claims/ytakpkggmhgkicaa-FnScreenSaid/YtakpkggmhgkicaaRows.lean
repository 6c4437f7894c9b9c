/-
  No cell of these rows narrows 'for every input' (looked for: loops, veiled, ifaces, maps, wideKeys, modest, calm, conditions, laid).
  DERIVED. THE GIVEN ROWS OF THIS SEAT. 7 by the template 'for every input the law returns true; each argument reads behind the call as it read before'; 0 by the template 'total and deterministic' (their statements: YtakpkggmhgkicaaTotals.lean).
  GIVEN WITH THE SEED: the statements are not yours to turn. If you find one false, say at which input.
  Laid BY PROGRAM, IN A SANDBOX (cutbox-rows.mjs): the forced cells as the released guide's own fill.sh prints them over the translation 750bd195b41a1fef… (all of the seat's roots in one cut). By AI agents, Wed Nov 11 2026. No macro, syntax, notation, axiom, sorry.
-/
import Derived.Test.YtakpkggmhgkicaaChecked
import GoSem.Claim
import GoSem.ClaimJoined
import GoSem.ClaimMapViews
import Derived.JoinedTies
import Derived.KernelRfl
namespace Go.Proofs.Ytakpkggmhgkicaa
/- THE CELL 'sum', in the pinned program and in every row, IS THE sha256 OF THE DUMP (.gsa) THAT YtakpkggmhgkicaaProg.lean LOADS. Nothing in Lean hashes anything: it is a label: what it is worth is what the hold of that sum in a sandbox is worth. -/
noncomputable def Try.pinned : Pinned := { name := "ytakpkggmhgkicaa", sum := "750bd195b41a1fef9b32879fe1a869a0851b3d5837e6ac6a776461bc8051ce24", checked := Try.checked }
namespace Rows
def none {H : Type} : Left H := { results := [], args := [] }

/-- 'laws.FnExactScreenText': WHATEVER THE INPUT: true; the input reads as it did. -/
def fnExactScreenTextSpec : ChangeSpec := { name := "fnExactScreenText", fn := fun _ => fun
  | [d1, d2] => { results := [.lit (.bool true)], args := [d1, d2] }
  | _ => none }
def fnExactScreenTextRow : OpenClaim := { program := "ytakpkggmhgkicaa", sum := "750bd195b41a1fef9b32879fe1a869a0851b3d5837e6ac6a776461bc8051ce24", func := "loop.example/g00875/laws.FnExactScreenText", spec := "fnExactScreenText", recurses := true, apart := false }
def FnExactScreenTextSaid : Prop := fnExactScreenTextRow.holds Try.pinned (OpenSpec.ofChange fnExactScreenTextSpec)

/-- ITS FALSE NEIGHBOUR: 'it returns false'. Refute it at one input. -/
def fnExactScreenTextWrong : ChangeSpec := { name := "fnExactScreenText", fn := fun _ => fun
  | [d1, d2] => { results := [.lit (.bool false)], args := [d1, d2] }
  | _ => none }
def FnExactScreenTextWrongFalsely : Prop := fnExactScreenTextRow.holds Try.pinned (OpenSpec.ofChange fnExactScreenTextWrong)

/-- 'laws.FnExactTroubleOf': WHATEVER THE INPUT: true; the input reads as it did. -/
def fnExactTroubleOfSpec : ChangeSpec := { name := "fnExactTroubleOf", fn := fun _ => fun
  | [d1, d2] => { results := [.lit (.bool true)], args := [d1, d2] }
  | _ => none }
def fnExactTroubleOfRow : OpenClaim := { program := "ytakpkggmhgkicaa", sum := "750bd195b41a1fef9b32879fe1a869a0851b3d5837e6ac6a776461bc8051ce24", func := "loop.example/g00875/laws.FnExactTroubleOf", spec := "fnExactTroubleOf", apart := false }
def FnExactTroubleOfSaid : Prop := fnExactTroubleOfRow.holds Try.pinned (OpenSpec.ofChange fnExactTroubleOfSpec)

/-- ITS FALSE NEIGHBOUR: 'it returns false'. Refute it at one input. -/
def fnExactTroubleOfWrong : ChangeSpec := { name := "fnExactTroubleOf", fn := fun _ => fun
  | [d1, d2] => { results := [.lit (.bool false)], args := [d1, d2] }
  | _ => none }
def FnExactTroubleOfWrongFalsely : Prop := fnExactTroubleOfRow.holds Try.pinned (OpenSpec.ofChange fnExactTroubleOfWrong)

/-- 'laws.FnExactCoveredSpots': WHATEVER THE INPUT: true; the input reads as it did. -/
def fnExactCoveredSpotsSpec : ChangeSpec := { name := "fnExactCoveredSpots", fn := fun _ => fun
  | [d1, d2] => { results := [.lit (.bool true)], args := [d1, d2] }
  | _ => none }
def fnExactCoveredSpotsRow : OpenClaim := { program := "ytakpkggmhgkicaa", sum := "750bd195b41a1fef9b32879fe1a869a0851b3d5837e6ac6a776461bc8051ce24", func := "loop.example/g00875/laws.FnExactCoveredSpots", spec := "fnExactCoveredSpots", apart := false }
def FnExactCoveredSpotsSaid : Prop := fnExactCoveredSpotsRow.holds Try.pinned (OpenSpec.ofChange fnExactCoveredSpotsSpec)

/-- ITS FALSE NEIGHBOUR: 'it returns false'. Refute it at one input. -/
def fnExactCoveredSpotsWrong : ChangeSpec := { name := "fnExactCoveredSpots", fn := fun _ => fun
  | [d1, d2] => { results := [.lit (.bool false)], args := [d1, d2] }
  | _ => none }
def FnExactCoveredSpotsWrongFalsely : Prop := fnExactCoveredSpotsRow.holds Try.pinned (OpenSpec.ofChange fnExactCoveredSpotsWrong)

/-- 'laws.FnExactSimplePlacing': WHATEVER THE INPUT: true; the input reads as it did. -/
def fnExactSimplePlacingSpec : ChangeSpec := { name := "fnExactSimplePlacing", fn := fun _ => fun
  | [d] => { results := [.lit (.bool true)], args := [d] }
  | _ => none }
def fnExactSimplePlacingRow : OpenClaim := { program := "ytakpkggmhgkicaa", sum := "750bd195b41a1fef9b32879fe1a869a0851b3d5837e6ac6a776461bc8051ce24", func := "loop.example/g00875/laws.FnExactSimplePlacing", spec := "fnExactSimplePlacing", apart := false }
def FnExactSimplePlacingSaid : Prop := fnExactSimplePlacingRow.holds Try.pinned (OpenSpec.ofChange fnExactSimplePlacingSpec)

/-- ITS FALSE NEIGHBOUR: 'it returns false'. Refute it at one input. -/
def fnExactSimplePlacingWrong : ChangeSpec := { name := "fnExactSimplePlacing", fn := fun _ => fun
  | [d] => { results := [.lit (.bool false)], args := [d] }
  | _ => none }
def FnExactSimplePlacingWrongFalsely : Prop := fnExactSimplePlacingRow.holds Try.pinned (OpenSpec.ofChange fnExactSimplePlacingWrong)

/-- 'laws.FnExactBestPlacing': WHATEVER THE INPUT: true; the input reads as it did. -/
def fnExactBestPlacingSpec : ChangeSpec := { name := "fnExactBestPlacing", fn := fun _ => fun
  | [d] => { results := [.lit (.bool true)], args := [d] }
  | _ => none }
def fnExactBestPlacingRow : OpenClaim := { program := "ytakpkggmhgkicaa", sum := "750bd195b41a1fef9b32879fe1a869a0851b3d5837e6ac6a776461bc8051ce24", func := "loop.example/g00875/laws.FnExactBestPlacing", spec := "fnExactBestPlacing", recurses := true, apart := false }
def FnExactBestPlacingSaid : Prop := fnExactBestPlacingRow.holds Try.pinned (OpenSpec.ofChange fnExactBestPlacingSpec)

/-- ITS FALSE NEIGHBOUR: 'it returns false'. Refute it at one input. -/
def fnExactBestPlacingWrong : ChangeSpec := { name := "fnExactBestPlacing", fn := fun _ => fun
  | [d] => { results := [.lit (.bool false)], args := [d] }
  | _ => none }
def FnExactBestPlacingWrongFalsely : Prop := fnExactBestPlacingRow.holds Try.pinned (OpenSpec.ofChange fnExactBestPlacingWrong)

/-- 'laws.FnScreen': WHATEVER THE INPUT: true; the input reads as it did. -/
def fnScreenSpec : ChangeSpec := { name := "fnScreen", fn := fun _ => fun
  | [d] => { results := [.lit (.bool true)], args := [d] }
  | _ => none }
def fnScreenRow : OpenClaim := { program := "ytakpkggmhgkicaa", sum := "750bd195b41a1fef9b32879fe1a869a0851b3d5837e6ac6a776461bc8051ce24", func := "loop.example/g00875/laws.FnScreen", spec := "fnScreen", recurses := true, apart := false }
def FnScreenSaid : Prop := fnScreenRow.holds Try.pinned (OpenSpec.ofChange fnScreenSpec)

/-- ITS FALSE NEIGHBOUR: 'it returns false'. Refute it at one input. -/
def fnScreenWrong : ChangeSpec := { name := "fnScreen", fn := fun _ => fun
  | [d] => { results := [.lit (.bool false)], args := [d] }
  | _ => none }
def FnScreenWrongFalsely : Prop := fnScreenRow.holds Try.pinned (OpenSpec.ofChange fnScreenWrong)

/-- 'laws.FnLabels': WHATEVER THE INPUT: true; the input reads as it did. -/
def fnLabelsSpec : ChangeSpec := { name := "fnLabels", fn := fun _ => fun
  | [d] => { results := [.lit (.bool true)], args := [d] }
  | _ => none }
def fnLabelsRow : OpenClaim := { program := "ytakpkggmhgkicaa", sum := "750bd195b41a1fef9b32879fe1a869a0851b3d5837e6ac6a776461bc8051ce24", func := "loop.example/g00875/laws.FnLabels", spec := "fnLabels", recurses := true, apart := false }
def FnLabelsSaid : Prop := fnLabelsRow.holds Try.pinned (OpenSpec.ofChange fnLabelsSpec)

/-- ITS FALSE NEIGHBOUR: 'it returns false'. Refute it at one input. -/
def fnLabelsWrong : ChangeSpec := { name := "fnLabels", fn := fun _ => fun
  | [d] => { results := [.lit (.bool false)], args := [d] }
  | _ => none }
def FnLabelsWrongFalsely : Prop := fnLabelsRow.holds Try.pinned (OpenSpec.ofChange fnLabelsWrong)

/- THE SECOND FORM. 'bulk': how many values and letters a reading holds, each counted each time it is reached (what is shared counts as often as it is met; a slice's spare places count too). A statement '..UptoSaid' is the law's where the arguments, and the package variables that the reading takes, are together of bulk at most 1048576: NARROWER than '..Said'. Prove '..Said' where nothing that the law and all that it calls make is longer than what came in: it says more and counts as full. Else prove '..UptoSaid'. A law counts once. -/
mutual
def uptoBulk {H : Type} : DataW H → Nat
  | .lit (.string bytes) => bytes.length + 1
  | .lit _ => 1
  | .nil => 1
  | .ptr d => uptoBulk d + 1
  | .slice elems spare => uptoBulkAll elems + uptoBulkAll spare + 1
  | .agg parts => uptoBulkAll parts + 1
  | .iface _ d => uptoBulk d + 1
  | .map entries => uptoBulkEntries entries + 1
  | .held _ => 1
def uptoBulkAll {H : Type} : List (DataW H) → Nat
  | [] => 0
  | d :: r => uptoBulk d + uptoBulkAll r
def uptoBulkEntries {H : Type} : List (Lit × DataW H) → Nat
  | [] => 0
  | x :: r => uptoBulkEntry x + uptoBulkEntries r
def uptoBulkEntry {H : Type} : Lit × DataW H → Nat
  | (.string bytes, d) => bytes.length + uptoBulk d + 1
  | (_, d) => uptoBulk d + 1
 end
def uptoSmall : (H : Type) → List (DataW H) → Bool := fun _ ds => decide (uptoBulkAll ds ≤ 1048576)
def OpenSpec.upto (s : _root_.Go.ChangeSpec) : _root_.Go.OpenSpec := { _root_.Go.OpenSpec.ofChange s with cond := some uptoSmall }

/-- 'laws.FnExactScreenText', WHERE WHAT IT READS IS OF BULK AT MOST 1048576: true; the input reads as it did. -/
def fnExactScreenTextUptoRow : OpenClaim := { program := "ytakpkggmhgkicaa", sum := "750bd195b41a1fef9b32879fe1a869a0851b3d5837e6ac6a776461bc8051ce24", func := "loop.example/g00875/laws.FnExactScreenText", spec := "fnExactScreenText", recurses := true, apart := false, narrowed := true }
def FnExactScreenTextUptoSaid : Prop := fnExactScreenTextUptoRow.holds Try.pinned (OpenSpec.upto fnExactScreenTextSpec)

/-- 'laws.FnExactTroubleOf', WHERE WHAT IT READS IS OF BULK AT MOST 1048576: true; the input reads as it did. -/
def fnExactTroubleOfUptoRow : OpenClaim := { program := "ytakpkggmhgkicaa", sum := "750bd195b41a1fef9b32879fe1a869a0851b3d5837e6ac6a776461bc8051ce24", func := "loop.example/g00875/laws.FnExactTroubleOf", spec := "fnExactTroubleOf", apart := false, narrowed := true }
def FnExactTroubleOfUptoSaid : Prop := fnExactTroubleOfUptoRow.holds Try.pinned (OpenSpec.upto fnExactTroubleOfSpec)

/-- 'laws.FnExactCoveredSpots', WHERE WHAT IT READS IS OF BULK AT MOST 1048576: true; the input reads as it did. -/
def fnExactCoveredSpotsUptoRow : OpenClaim := { program := "ytakpkggmhgkicaa", sum := "750bd195b41a1fef9b32879fe1a869a0851b3d5837e6ac6a776461bc8051ce24", func := "loop.example/g00875/laws.FnExactCoveredSpots", spec := "fnExactCoveredSpots", apart := false, narrowed := true }
def FnExactCoveredSpotsUptoSaid : Prop := fnExactCoveredSpotsUptoRow.holds Try.pinned (OpenSpec.upto fnExactCoveredSpotsSpec)

/-- 'laws.FnExactSimplePlacing', WHERE WHAT IT READS IS OF BULK AT MOST 1048576: true; the input reads as it did. -/
def fnExactSimplePlacingUptoRow : OpenClaim := { program := "ytakpkggmhgkicaa", sum := "750bd195b41a1fef9b32879fe1a869a0851b3d5837e6ac6a776461bc8051ce24", func := "loop.example/g00875/laws.FnExactSimplePlacing", spec := "fnExactSimplePlacing", apart := false, narrowed := true }
def FnExactSimplePlacingUptoSaid : Prop := fnExactSimplePlacingUptoRow.holds Try.pinned (OpenSpec.upto fnExactSimplePlacingSpec)

/-- 'laws.FnExactBestPlacing', WHERE WHAT IT READS IS OF BULK AT MOST 1048576: true; the input reads as it did. -/
def fnExactBestPlacingUptoRow : OpenClaim := { program := "ytakpkggmhgkicaa", sum := "750bd195b41a1fef9b32879fe1a869a0851b3d5837e6ac6a776461bc8051ce24", func := "loop.example/g00875/laws.FnExactBestPlacing", spec := "fnExactBestPlacing", recurses := true, apart := false, narrowed := true }
def FnExactBestPlacingUptoSaid : Prop := fnExactBestPlacingUptoRow.holds Try.pinned (OpenSpec.upto fnExactBestPlacingSpec)

/-- 'laws.FnScreen', WHERE WHAT IT READS IS OF BULK AT MOST 1048576: true; the input reads as it did. -/
def fnScreenUptoRow : OpenClaim := { program := "ytakpkggmhgkicaa", sum := "750bd195b41a1fef9b32879fe1a869a0851b3d5837e6ac6a776461bc8051ce24", func := "loop.example/g00875/laws.FnScreen", spec := "fnScreen", recurses := true, apart := false, narrowed := true }
def FnScreenUptoSaid : Prop := fnScreenUptoRow.holds Try.pinned (OpenSpec.upto fnScreenSpec)

/-- 'laws.FnLabels', WHERE WHAT IT READS IS OF BULK AT MOST 1048576: true; the input reads as it did. -/
def fnLabelsUptoRow : OpenClaim := { program := "ytakpkggmhgkicaa", sum := "750bd195b41a1fef9b32879fe1a869a0851b3d5837e6ac6a776461bc8051ce24", func := "loop.example/g00875/laws.FnLabels", spec := "fnLabels", recurses := true, apart := false, narrowed := true }
def FnLabelsUptoSaid : Prop := fnLabelsUptoRow.holds Try.pinned (OpenSpec.upto fnLabelsSpec)

end Rows
end Go.Proofs.Ytakpkggmhgkicaa

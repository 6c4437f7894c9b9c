/-
  No cell of these rows narrows 'for every input' (looked for: loops, veiled, ifaces, maps, wideKeys, modest, calm, conditions, laid).
  DERIVED. THE GIVEN ROWS OF THIS SEAT. 12 by the template 'for every input the law returns true; each argument reads behind the call as it read before'; 0 by the template 'total and deterministic' (their statements: YtdpmfgkmioaddaaTotals.lean).
  GIVEN WITH THE SEED: the statements are not yours to turn. If you find one false, say at which input.
  Laid BY PROGRAM, IN A SANDBOX (cutbox-rows.mjs): the forced cells as the released guide's own fill.sh prints them over the translation 202f300f75916df4… (all of the seat's roots in one cut). By AI agents, Wed Nov 11 2026. No macro, syntax, notation, axiom, sorry.
-/
import Derived.Test.YtdpmfgkmioaddaaChecked
import GoSem.Claim
import GoSem.ClaimJoined
import GoSem.ClaimMapViews
import Derived.JoinedTies
import Derived.KernelRfl
namespace Go.Proofs.Ytdpmfgkmioaddaa
/- THE CELL 'sum', in the pinned program and in every row, IS THE sha256 OF THE DUMP (.gsa) THAT YtdpmfgkmioaddaaProg.lean LOADS. Nothing in Lean hashes anything: it is a label: what it is worth is what the hold of that sum in a sandbox is worth. -/
noncomputable def Try.pinned : Pinned := { name := "ytdpmfgkmioaddaa", sum := "202f300f75916df40517f1bf148d5f3c2513c034f3152056c9f002dd3cc420ca", checked := Try.checked }
namespace Rows
def none {H : Type} : Left H := { results := [], args := [] }

/-- 'laws.FnExactIsValidSamples': WHATEVER THE INPUT: true; the input reads as it did. -/
def fnExactIsValidSamplesSpec : ChangeSpec := { name := "fnExactIsValidSamples", fn := fun _ => fun
  | [d] => { results := [.lit (.bool true)], args := [d] }
  | _ => none }
def fnExactIsValidSamplesRow : OpenClaim := { program := "ytdpmfgkmioaddaa", sum := "202f300f75916df40517f1bf148d5f3c2513c034f3152056c9f002dd3cc420ca", func := "loop.example/g00875/laws.FnExactIsValidSamples", spec := "fnExactIsValidSamples", apart := false }
def FnExactIsValidSamplesSaid : Prop := fnExactIsValidSamplesRow.holds Try.pinned (OpenSpec.ofChange fnExactIsValidSamplesSpec)

/-- ITS FALSE NEIGHBOUR: 'it returns false'. Refute it at one input. -/
def fnExactIsValidSamplesWrong : ChangeSpec := { name := "fnExactIsValidSamples", fn := fun _ => fun
  | [d] => { results := [.lit (.bool false)], args := [d] }
  | _ => none }
def FnExactIsValidSamplesWrongFalsely : Prop := fnExactIsValidSamplesRow.holds Try.pinned (OpenSpec.ofChange fnExactIsValidSamplesWrong)

/-- 'laws.FnExactLongestRise': WHATEVER THE INPUT: true; the input reads as it did. -/
def fnExactLongestRiseSpec : ChangeSpec := { name := "fnExactLongestRise", fn := fun _ => fun
  | [d] => { results := [.lit (.bool true)], args := [d] }
  | _ => none }
def fnExactLongestRiseRow : OpenClaim := { program := "ytdpmfgkmioaddaa", sum := "202f300f75916df40517f1bf148d5f3c2513c034f3152056c9f002dd3cc420ca", func := "loop.example/g00875/laws.FnExactLongestRise", spec := "fnExactLongestRise", apart := false }
def FnExactLongestRiseSaid : Prop := fnExactLongestRiseRow.holds Try.pinned (OpenSpec.ofChange fnExactLongestRiseSpec)

/-- ITS FALSE NEIGHBOUR: 'it returns false'. Refute it at one input. -/
def fnExactLongestRiseWrong : ChangeSpec := { name := "fnExactLongestRise", fn := fun _ => fun
  | [d] => { results := [.lit (.bool false)], args := [d] }
  | _ => none }
def FnExactLongestRiseWrongFalsely : Prop := fnExactLongestRiseRow.holds Try.pinned (OpenSpec.ofChange fnExactLongestRiseWrong)

/-- 'laws.FnExactSamplePercentile': WHATEVER THE INPUT: true; the input reads as it did. -/
def fnExactSamplePercentileSpec : ChangeSpec := { name := "fnExactSamplePercentile", fn := fun _ => fun
  | [d1, d2] => { results := [.lit (.bool true)], args := [d1, d2] }
  | _ => none }
def fnExactSamplePercentileRow : OpenClaim := { program := "ytdpmfgkmioaddaa", sum := "202f300f75916df40517f1bf148d5f3c2513c034f3152056c9f002dd3cc420ca", func := "loop.example/g00875/laws.FnExactSamplePercentile", spec := "fnExactSamplePercentile", apart := false }
def FnExactSamplePercentileSaid : Prop := fnExactSamplePercentileRow.holds Try.pinned (OpenSpec.ofChange fnExactSamplePercentileSpec)

/-- ITS FALSE NEIGHBOUR: 'it returns false'. Refute it at one input. -/
def fnExactSamplePercentileWrong : ChangeSpec := { name := "fnExactSamplePercentile", fn := fun _ => fun
  | [d1, d2] => { results := [.lit (.bool false)], args := [d1, d2] }
  | _ => none }
def FnExactSamplePercentileWrongFalsely : Prop := fnExactSamplePercentileRow.holds Try.pinned (OpenSpec.ofChange fnExactSamplePercentileWrong)

/-- 'laws.FnExactHistogramOf': WHATEVER THE INPUT: true; the input reads as it did. -/
def fnExactHistogramOfSpec : ChangeSpec := { name := "fnExactHistogramOf", fn := fun _ => fun
  | [d1, d2, d3, d4] => { results := [.lit (.bool true)], args := [d1, d2, d3, d4] }
  | _ => none }
def fnExactHistogramOfRow : OpenClaim := { program := "ytdpmfgkmioaddaa", sum := "202f300f75916df40517f1bf148d5f3c2513c034f3152056c9f002dd3cc420ca", func := "loop.example/g00875/laws.FnExactHistogramOf", spec := "fnExactHistogramOf", apart := false }
def FnExactHistogramOfSaid : Prop := fnExactHistogramOfRow.holds Try.pinned (OpenSpec.ofChange fnExactHistogramOfSpec)

/-- ITS FALSE NEIGHBOUR: 'it returns false'. Refute it at one input. -/
def fnExactHistogramOfWrong : ChangeSpec := { name := "fnExactHistogramOf", fn := fun _ => fun
  | [d1, d2, d3, d4] => { results := [.lit (.bool false)], args := [d1, d2, d3, d4] }
  | _ => none }
def FnExactHistogramOfWrongFalsely : Prop := fnExactHistogramOfRow.holds Try.pinned (OpenSpec.ofChange fnExactHistogramOfWrong)

/-- 'laws.FnExactSampleMean': WHATEVER THE INPUT: true; the input reads as it did. -/
def fnExactSampleMeanSpec : ChangeSpec := { name := "fnExactSampleMean", fn := fun _ => fun
  | [d] => { results := [.lit (.bool true)], args := [d] }
  | _ => none }
def fnExactSampleMeanRow : OpenClaim := { program := "ytdpmfgkmioaddaa", sum := "202f300f75916df40517f1bf148d5f3c2513c034f3152056c9f002dd3cc420ca", func := "loop.example/g00875/laws.FnExactSampleMean", spec := "fnExactSampleMean", apart := false }
def FnExactSampleMeanSaid : Prop := fnExactSampleMeanRow.holds Try.pinned (OpenSpec.ofChange fnExactSampleMeanSpec)

/-- ITS FALSE NEIGHBOUR: 'it returns false'. Refute it at one input. -/
def fnExactSampleMeanWrong : ChangeSpec := { name := "fnExactSampleMean", fn := fun _ => fun
  | [d] => { results := [.lit (.bool false)], args := [d] }
  | _ => none }
def FnExactSampleMeanWrongFalsely : Prop := fnExactSampleMeanRow.holds Try.pinned (OpenSpec.ofChange fnExactSampleMeanWrong)

/-- 'laws.FnExactMostFrequent': WHATEVER THE INPUT: true; the input reads as it did. -/
def fnExactMostFrequentSpec : ChangeSpec := { name := "fnExactMostFrequent", fn := fun _ => fun
  | [d] => { results := [.lit (.bool true)], args := [d] }
  | _ => none }
def fnExactMostFrequentRow : OpenClaim := { program := "ytdpmfgkmioaddaa", sum := "202f300f75916df40517f1bf148d5f3c2513c034f3152056c9f002dd3cc420ca", func := "loop.example/g00875/laws.FnExactMostFrequent", spec := "fnExactMostFrequent", apart := false }
def FnExactMostFrequentSaid : Prop := fnExactMostFrequentRow.holds Try.pinned (OpenSpec.ofChange fnExactMostFrequentSpec)

/-- ITS FALSE NEIGHBOUR: 'it returns false'. Refute it at one input. -/
def fnExactMostFrequentWrong : ChangeSpec := { name := "fnExactMostFrequent", fn := fun _ => fun
  | [d] => { results := [.lit (.bool false)], args := [d] }
  | _ => none }
def FnExactMostFrequentWrongFalsely : Prop := fnExactMostFrequentRow.holds Try.pinned (OpenSpec.ofChange fnExactMostFrequentWrong)

/-- 'laws.FnExactSampleVariance': WHATEVER THE INPUT: true; the input reads as it did. -/
def fnExactSampleVarianceSpec : ChangeSpec := { name := "fnExactSampleVariance", fn := fun _ => fun
  | [d] => { results := [.lit (.bool true)], args := [d] }
  | _ => none }
def fnExactSampleVarianceRow : OpenClaim := { program := "ytdpmfgkmioaddaa", sum := "202f300f75916df40517f1bf148d5f3c2513c034f3152056c9f002dd3cc420ca", func := "loop.example/g00875/laws.FnExactSampleVariance", spec := "fnExactSampleVariance", apart := false }
def FnExactSampleVarianceSaid : Prop := fnExactSampleVarianceRow.holds Try.pinned (OpenSpec.ofChange fnExactSampleVarianceSpec)

/-- ITS FALSE NEIGHBOUR: 'it returns false'. Refute it at one input. -/
def fnExactSampleVarianceWrong : ChangeSpec := { name := "fnExactSampleVariance", fn := fun _ => fun
  | [d] => { results := [.lit (.bool false)], args := [d] }
  | _ => none }
def FnExactSampleVarianceWrongFalsely : Prop := fnExactSampleVarianceRow.holds Try.pinned (OpenSpec.ofChange fnExactSampleVarianceWrong)

/-- 'laws.FnExactSlopeOf': WHATEVER THE INPUT: true; the input reads as it did. -/
def fnExactSlopeOfSpec : ChangeSpec := { name := "fnExactSlopeOf", fn := fun _ => fun
  | [d] => { results := [.lit (.bool true)], args := [d] }
  | _ => none }
def fnExactSlopeOfRow : OpenClaim := { program := "ytdpmfgkmioaddaa", sum := "202f300f75916df40517f1bf148d5f3c2513c034f3152056c9f002dd3cc420ca", func := "loop.example/g00875/laws.FnExactSlopeOf", spec := "fnExactSlopeOf", apart := false }
def FnExactSlopeOfSaid : Prop := fnExactSlopeOfRow.holds Try.pinned (OpenSpec.ofChange fnExactSlopeOfSpec)

/-- ITS FALSE NEIGHBOUR: 'it returns false'. Refute it at one input. -/
def fnExactSlopeOfWrong : ChangeSpec := { name := "fnExactSlopeOf", fn := fun _ => fun
  | [d] => { results := [.lit (.bool false)], args := [d] }
  | _ => none }
def FnExactSlopeOfWrongFalsely : Prop := fnExactSlopeOfRow.holds Try.pinned (OpenSpec.ofChange fnExactSlopeOfWrong)

/-- 'laws.FnExactSampleMedian': WHATEVER THE INPUT: true; the input reads as it did. -/
def fnExactSampleMedianSpec : ChangeSpec := { name := "fnExactSampleMedian", fn := fun _ => fun
  | [d] => { results := [.lit (.bool true)], args := [d] }
  | _ => none }
def fnExactSampleMedianRow : OpenClaim := { program := "ytdpmfgkmioaddaa", sum := "202f300f75916df40517f1bf148d5f3c2513c034f3152056c9f002dd3cc420ca", func := "loop.example/g00875/laws.FnExactSampleMedian", spec := "fnExactSampleMedian", apart := false }
def FnExactSampleMedianSaid : Prop := fnExactSampleMedianRow.holds Try.pinned (OpenSpec.ofChange fnExactSampleMedianSpec)

/-- ITS FALSE NEIGHBOUR: 'it returns false'. Refute it at one input. -/
def fnExactSampleMedianWrong : ChangeSpec := { name := "fnExactSampleMedian", fn := fun _ => fun
  | [d] => { results := [.lit (.bool false)], args := [d] }
  | _ => none }
def FnExactSampleMedianWrongFalsely : Prop := fnExactSampleMedianRow.holds Try.pinned (OpenSpec.ofChange fnExactSampleMedianWrong)

/-- 'laws.FnExactTrimmedMean': WHATEVER THE INPUT: true; the input reads as it did. -/
def fnExactTrimmedMeanSpec : ChangeSpec := { name := "fnExactTrimmedMean", fn := fun _ => fun
  | [d1, d2] => { results := [.lit (.bool true)], args := [d1, d2] }
  | _ => none }
def fnExactTrimmedMeanRow : OpenClaim := { program := "ytdpmfgkmioaddaa", sum := "202f300f75916df40517f1bf148d5f3c2513c034f3152056c9f002dd3cc420ca", func := "loop.example/g00875/laws.FnExactTrimmedMean", spec := "fnExactTrimmedMean", apart := false }
def FnExactTrimmedMeanSaid : Prop := fnExactTrimmedMeanRow.holds Try.pinned (OpenSpec.ofChange fnExactTrimmedMeanSpec)

/-- ITS FALSE NEIGHBOUR: 'it returns false'. Refute it at one input. -/
def fnExactTrimmedMeanWrong : ChangeSpec := { name := "fnExactTrimmedMean", fn := fun _ => fun
  | [d1, d2] => { results := [.lit (.bool false)], args := [d1, d2] }
  | _ => none }
def FnExactTrimmedMeanWrongFalsely : Prop := fnExactTrimmedMeanRow.holds Try.pinned (OpenSpec.ofChange fnExactTrimmedMeanWrong)

/-- 'laws.FnSamples': WHATEVER THE INPUT: true; the input reads as it did. -/
def fnSamplesSpec : ChangeSpec := { name := "fnSamples", fn := fun _ => fun
  | [d] => { results := [.lit (.bool true)], args := [d] }
  | _ => none }
def fnSamplesRow : OpenClaim := { program := "ytdpmfgkmioaddaa", sum := "202f300f75916df40517f1bf148d5f3c2513c034f3152056c9f002dd3cc420ca", func := "loop.example/g00875/laws.FnSamples", spec := "fnSamples", apart := false }
def FnSamplesSaid : Prop := fnSamplesRow.holds Try.pinned (OpenSpec.ofChange fnSamplesSpec)

/-- ITS FALSE NEIGHBOUR: 'it returns false'. Refute it at one input. -/
def fnSamplesWrong : ChangeSpec := { name := "fnSamples", fn := fun _ => fun
  | [d] => { results := [.lit (.bool false)], args := [d] }
  | _ => none }
def FnSamplesWrongFalsely : Prop := fnSamplesRow.holds Try.pinned (OpenSpec.ofChange fnSamplesWrong)

/-- 'laws.FnHistograms': WHATEVER THE INPUT: true; the input reads as it did. -/
def fnHistogramsSpec : ChangeSpec := { name := "fnHistograms", fn := fun _ => fun
  | [d] => { results := [.lit (.bool true)], args := [d] }
  | _ => none }
def fnHistogramsRow : OpenClaim := { program := "ytdpmfgkmioaddaa", sum := "202f300f75916df40517f1bf148d5f3c2513c034f3152056c9f002dd3cc420ca", func := "loop.example/g00875/laws.FnHistograms", spec := "fnHistograms", apart := false }
def FnHistogramsSaid : Prop := fnHistogramsRow.holds Try.pinned (OpenSpec.ofChange fnHistogramsSpec)

/-- ITS FALSE NEIGHBOUR: 'it returns false'. Refute it at one input. -/
def fnHistogramsWrong : ChangeSpec := { name := "fnHistograms", fn := fun _ => fun
  | [d] => { results := [.lit (.bool false)], args := [d] }
  | _ => none }
def FnHistogramsWrongFalsely : Prop := fnHistogramsRow.holds Try.pinned (OpenSpec.ofChange fnHistogramsWrong)

/- THE SECOND FORM. 'bulk': how many values and letters a reading holds, each counted each time it is reached (what is shared counts as often as it is met; a slice's spare places count too). A statement '..UptoSaid' is the law's where the arguments, and the package variables that the reading takes, are together of bulk at most 1048576: NARROWER than '..Said'. Prove '..Said' where nothing that the law and all that it calls make is longer than what came in: it says more and counts as full. Else prove '..UptoSaid'. A law counts once. -/
mutual
def uptoBulk {H : Type} : DataW H → Nat
  | .lit (.string bytes) => bytes.length + 1
  | .lit _ => 1
  | .nil => 1
  | .ptr d => uptoBulk d + 1
  | .slice elems spare => uptoBulkAll elems + uptoBulkAll spare + 1
  | .agg parts => uptoBulkAll parts + 1
  | .iface _ d => uptoBulk d + 1
  | .map entries => uptoBulkEntries entries + 1
  | .held _ => 1
def uptoBulkAll {H : Type} : List (DataW H) → Nat
  | [] => 0
  | d :: r => uptoBulk d + uptoBulkAll r
def uptoBulkEntries {H : Type} : List (Lit × DataW H) → Nat
  | [] => 0
  | x :: r => uptoBulkEntry x + uptoBulkEntries r
def uptoBulkEntry {H : Type} : Lit × DataW H → Nat
  | (.string bytes, d) => bytes.length + uptoBulk d + 1
  | (_, d) => uptoBulk d + 1
 end
def uptoSmall : (H : Type) → List (DataW H) → Bool := fun _ ds => decide (uptoBulkAll ds ≤ 1048576)
def OpenSpec.upto (s : _root_.Go.ChangeSpec) : _root_.Go.OpenSpec := { _root_.Go.OpenSpec.ofChange s with cond := some uptoSmall }

/-- 'laws.FnExactIsValidSamples', WHERE WHAT IT READS IS OF BULK AT MOST 1048576: true; the input reads as it did. -/
def fnExactIsValidSamplesUptoRow : OpenClaim := { program := "ytdpmfgkmioaddaa", sum := "202f300f75916df40517f1bf148d5f3c2513c034f3152056c9f002dd3cc420ca", func := "loop.example/g00875/laws.FnExactIsValidSamples", spec := "fnExactIsValidSamples", apart := false, narrowed := true }
def FnExactIsValidSamplesUptoSaid : Prop := fnExactIsValidSamplesUptoRow.holds Try.pinned (OpenSpec.upto fnExactIsValidSamplesSpec)

/-- 'laws.FnExactLongestRise', WHERE WHAT IT READS IS OF BULK AT MOST 1048576: true; the input reads as it did. -/
def fnExactLongestRiseUptoRow : OpenClaim := { program := "ytdpmfgkmioaddaa", sum := "202f300f75916df40517f1bf148d5f3c2513c034f3152056c9f002dd3cc420ca", func := "loop.example/g00875/laws.FnExactLongestRise", spec := "fnExactLongestRise", apart := false, narrowed := true }
def FnExactLongestRiseUptoSaid : Prop := fnExactLongestRiseUptoRow.holds Try.pinned (OpenSpec.upto fnExactLongestRiseSpec)

/-- 'laws.FnExactSamplePercentile', WHERE WHAT IT READS IS OF BULK AT MOST 1048576: true; the input reads as it did. -/
def fnExactSamplePercentileUptoRow : OpenClaim := { program := "ytdpmfgkmioaddaa", sum := "202f300f75916df40517f1bf148d5f3c2513c034f3152056c9f002dd3cc420ca", func := "loop.example/g00875/laws.FnExactSamplePercentile", spec := "fnExactSamplePercentile", apart := false, narrowed := true }
def FnExactSamplePercentileUptoSaid : Prop := fnExactSamplePercentileUptoRow.holds Try.pinned (OpenSpec.upto fnExactSamplePercentileSpec)

/-- 'laws.FnExactHistogramOf', WHERE WHAT IT READS IS OF BULK AT MOST 1048576: true; the input reads as it did. -/
def fnExactHistogramOfUptoRow : OpenClaim := { program := "ytdpmfgkmioaddaa", sum := "202f300f75916df40517f1bf148d5f3c2513c034f3152056c9f002dd3cc420ca", func := "loop.example/g00875/laws.FnExactHistogramOf", spec := "fnExactHistogramOf", apart := false, narrowed := true }
def FnExactHistogramOfUptoSaid : Prop := fnExactHistogramOfUptoRow.holds Try.pinned (OpenSpec.upto fnExactHistogramOfSpec)

/-- 'laws.FnExactSampleMean', WHERE WHAT IT READS IS OF BULK AT MOST 1048576: true; the input reads as it did. -/
def fnExactSampleMeanUptoRow : OpenClaim := { program := "ytdpmfgkmioaddaa", sum := "202f300f75916df40517f1bf148d5f3c2513c034f3152056c9f002dd3cc420ca", func := "loop.example/g00875/laws.FnExactSampleMean", spec := "fnExactSampleMean", apart := false, narrowed := true }
def FnExactSampleMeanUptoSaid : Prop := fnExactSampleMeanUptoRow.holds Try.pinned (OpenSpec.upto fnExactSampleMeanSpec)

/-- 'laws.FnExactMostFrequent', WHERE WHAT IT READS IS OF BULK AT MOST 1048576: true; the input reads as it did. -/
def fnExactMostFrequentUptoRow : OpenClaim := { program := "ytdpmfgkmioaddaa", sum := "202f300f75916df40517f1bf148d5f3c2513c034f3152056c9f002dd3cc420ca", func := "loop.example/g00875/laws.FnExactMostFrequent", spec := "fnExactMostFrequent", apart := false, narrowed := true }
def FnExactMostFrequentUptoSaid : Prop := fnExactMostFrequentUptoRow.holds Try.pinned (OpenSpec.upto fnExactMostFrequentSpec)

/-- 'laws.FnExactSampleVariance', WHERE WHAT IT READS IS OF BULK AT MOST 1048576: true; the input reads as it did. -/
def fnExactSampleVarianceUptoRow : OpenClaim := { program := "ytdpmfgkmioaddaa", sum := "202f300f75916df40517f1bf148d5f3c2513c034f3152056c9f002dd3cc420ca", func := "loop.example/g00875/laws.FnExactSampleVariance", spec := "fnExactSampleVariance", apart := false, narrowed := true }
def FnExactSampleVarianceUptoSaid : Prop := fnExactSampleVarianceUptoRow.holds Try.pinned (OpenSpec.upto fnExactSampleVarianceSpec)

/-- 'laws.FnExactSlopeOf', WHERE WHAT IT READS IS OF BULK AT MOST 1048576: true; the input reads as it did. -/
def fnExactSlopeOfUptoRow : OpenClaim := { program := "ytdpmfgkmioaddaa", sum := "202f300f75916df40517f1bf148d5f3c2513c034f3152056c9f002dd3cc420ca", func := "loop.example/g00875/laws.FnExactSlopeOf", spec := "fnExactSlopeOf", apart := false, narrowed := true }
def FnExactSlopeOfUptoSaid : Prop := fnExactSlopeOfUptoRow.holds Try.pinned (OpenSpec.upto fnExactSlopeOfSpec)

/-- 'laws.FnExactSampleMedian', WHERE WHAT IT READS IS OF BULK AT MOST 1048576: true; the input reads as it did. -/
def fnExactSampleMedianUptoRow : OpenClaim := { program := "ytdpmfgkmioaddaa", sum := "202f300f75916df40517f1bf148d5f3c2513c034f3152056c9f002dd3cc420ca", func := "loop.example/g00875/laws.FnExactSampleMedian", spec := "fnExactSampleMedian", apart := false, narrowed := true }
def FnExactSampleMedianUptoSaid : Prop := fnExactSampleMedianUptoRow.holds Try.pinned (OpenSpec.upto fnExactSampleMedianSpec)

/-- 'laws.FnExactTrimmedMean', WHERE WHAT IT READS IS OF BULK AT MOST 1048576: true; the input reads as it did. -/
def fnExactTrimmedMeanUptoRow : OpenClaim := { program := "ytdpmfgkmioaddaa", sum := "202f300f75916df40517f1bf148d5f3c2513c034f3152056c9f002dd3cc420ca", func := "loop.example/g00875/laws.FnExactTrimmedMean", spec := "fnExactTrimmedMean", apart := false, narrowed := true }
def FnExactTrimmedMeanUptoSaid : Prop := fnExactTrimmedMeanUptoRow.holds Try.pinned (OpenSpec.upto fnExactTrimmedMeanSpec)

/-- 'laws.FnSamples', WHERE WHAT IT READS IS OF BULK AT MOST 1048576: true; the input reads as it did. -/
def fnSamplesUptoRow : OpenClaim := { program := "ytdpmfgkmioaddaa", sum := "202f300f75916df40517f1bf148d5f3c2513c034f3152056c9f002dd3cc420ca", func := "loop.example/g00875/laws.FnSamples", spec := "fnSamples", apart := false, narrowed := true }
def FnSamplesUptoSaid : Prop := fnSamplesUptoRow.holds Try.pinned (OpenSpec.upto fnSamplesSpec)

/-- 'laws.FnHistograms', WHERE WHAT IT READS IS OF BULK AT MOST 1048576: true; the input reads as it did. -/
def fnHistogramsUptoRow : OpenClaim := { program := "ytdpmfgkmioaddaa", sum := "202f300f75916df40517f1bf148d5f3c2513c034f3152056c9f002dd3cc420ca", func := "loop.example/g00875/laws.FnHistograms", spec := "fnHistograms", apart := false, narrowed := true }
def FnHistogramsUptoSaid : Prop := fnHistogramsUptoRow.holds Try.pinned (OpenSpec.upto fnHistogramsSpec)

end Rows
end Go.Proofs.Ytdpmfgkmioaddaa

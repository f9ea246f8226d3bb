/-
  No cell of these rows narrows 'for every input' (looked for: loops, veiled, ifaces, maps, wideKeys, modest, calm, conditions, laid).
  DERIVED. THE GIVEN ROWS OF THIS SEAT. 12 by the template 'for every input the law returns true; each argument reads behind the call as it read before'; 0 by the template 'total and deterministic' (their statements: YtejnhhjldddbdaaTotals.lean).
  GIVEN WITH THE SEED: the statements are not yours to turn. If you find one false, say at which input.
  Laid BY PROGRAM, IN A SANDBOX (cutbox-rows.mjs): the forced cells as the released guide's own fill.sh prints them over the translation 4719be08a479b515… (all of the seat's roots in one cut). By AI agents, Wed Nov 11 2026. No macro, syntax, notation, axiom, sorry.
-/
import Derived.Test.YtejnhhjldddbdaaChecked
import GoSem.Claim
import GoSem.ClaimJoined
import GoSem.ClaimMapViews
import Derived.JoinedTies
import Derived.KernelRfl
namespace Go.Proofs.Ytejnhhjldddbdaa
/- THE CELL 'sum', in the pinned program and in every row, IS THE sha256 OF THE DUMP (.gsa) THAT YtejnhhjldddbdaaProg.lean LOADS. Nothing in Lean hashes anything: it is a label: what it is worth is what the hold of that sum in a sandbox is worth. -/
noncomputable def Try.pinned : Pinned := { name := "ytejnhhjldddbdaa", sum := "4719be08a479b5156274960045d363eca88776e83e970143e7ca318b66058e50", checked := Try.checked }
namespace Rows
def none {H : Type} : Left H := { results := [], args := [] }

/-- 'orchestrionlaw25.TuneMix': WHATEVER THE INPUT: true; the input reads as it did. -/
def tuneMixSpec : ChangeSpec := { name := "tuneMix", fn := fun _ => fun
  | [d1, d2, d3] => { results := [.lit (.bool true)], args := [d1, d2, d3] }
  | _ => none }
def tuneMixRow : OpenClaim := { program := "ytejnhhjldddbdaa", sum := "4719be08a479b5156274960045d363eca88776e83e970143e7ca318b66058e50", func := "orchestrion/orchestrionlaw25.TuneMix", spec := "tuneMix", unfollowed := true, recurses := true, apart := false }
def TuneMixSaid : Prop := tuneMixRow.holds Try.pinned (OpenSpec.ofChange tuneMixSpec)

/-- ITS FALSE NEIGHBOUR: 'it returns false'. Refute it at one input. -/
def tuneMixWrong : ChangeSpec := { name := "tuneMix", fn := fun _ => fun
  | [d1, d2, d3] => { results := [.lit (.bool false)], args := [d1, d2, d3] }
  | _ => none }
def TuneMixWrongFalsely : Prop := tuneMixRow.holds Try.pinned (OpenSpec.ofChange tuneMixWrong)

/-- 'orchestrionlaw25.TuneDraw': WHATEVER THE INPUT: true; the input reads as it did. -/
def tuneDrawSpec : ChangeSpec := { name := "tuneDraw", fn := fun _ => fun
  | [d] => { results := [.lit (.bool true)], args := [d] }
  | _ => none }
def tuneDrawRow : OpenClaim := { program := "ytejnhhjldddbdaa", sum := "4719be08a479b5156274960045d363eca88776e83e970143e7ca318b66058e50", func := "orchestrion/orchestrionlaw25.TuneDraw", spec := "tuneDraw", apart := false }
def TuneDrawSaid : Prop := tuneDrawRow.holds Try.pinned (OpenSpec.ofChange tuneDrawSpec)

/-- ITS FALSE NEIGHBOUR: 'it returns false'. Refute it at one input. -/
def tuneDrawWrong : ChangeSpec := { name := "tuneDraw", fn := fun _ => fun
  | [d] => { results := [.lit (.bool false)], args := [d] }
  | _ => none }
def TuneDrawWrongFalsely : Prop := tuneDrawRow.holds Try.pinned (OpenSpec.ofChange tuneDrawWrong)

/-- 'orchestrionlaw25.TuneSlices': WHATEVER THE INPUT: true; the input reads as it did. -/
def tuneSlicesSpec : ChangeSpec := { name := "tuneSlices", fn := fun _ => fun
  | [d1, d2, d3] => { results := [.lit (.bool true)], args := [d1, d2, d3] }
  | _ => none }
def tuneSlicesRow : OpenClaim := { program := "ytejnhhjldddbdaa", sum := "4719be08a479b5156274960045d363eca88776e83e970143e7ca318b66058e50", func := "orchestrion/orchestrionlaw25.TuneSlices", spec := "tuneSlices", apart := false }
def TuneSlicesSaid : Prop := tuneSlicesRow.holds Try.pinned (OpenSpec.ofChange tuneSlicesSpec)

/-- ITS FALSE NEIGHBOUR: 'it returns false'. Refute it at one input. -/
def tuneSlicesWrong : ChangeSpec := { name := "tuneSlices", fn := fun _ => fun
  | [d1, d2, d3] => { results := [.lit (.bool false)], args := [d1, d2, d3] }
  | _ => none }
def TuneSlicesWrongFalsely : Prop := tuneSlicesRow.holds Try.pinned (OpenSpec.ofChange tuneSlicesWrong)

/-- 'orchestrionlaw25.TuneLoop': WHATEVER THE INPUT: true; the input reads as it did. -/
def tuneLoopSpec : ChangeSpec := { name := "tuneLoop", fn := fun _ => fun
  | [d1, d2, d3] => { results := [.lit (.bool true)], args := [d1, d2, d3] }
  | _ => none }
def tuneLoopRow : OpenClaim := { program := "ytejnhhjldddbdaa", sum := "4719be08a479b5156274960045d363eca88776e83e970143e7ca318b66058e50", func := "orchestrion/orchestrionlaw25.TuneLoop", spec := "tuneLoop", apart := false }
def TuneLoopSaid : Prop := tuneLoopRow.holds Try.pinned (OpenSpec.ofChange tuneLoopSpec)

/-- ITS FALSE NEIGHBOUR: 'it returns false'. Refute it at one input. -/
def tuneLoopWrong : ChangeSpec := { name := "tuneLoop", fn := fun _ => fun
  | [d1, d2, d3] => { results := [.lit (.bool false)], args := [d1, d2, d3] }
  | _ => none }
def TuneLoopWrongFalsely : Prop := tuneLoopRow.holds Try.pinned (OpenSpec.ofChange tuneLoopWrong)

/-- 'orchestrionlaw25.TuneLeast': WHATEVER THE INPUT: true; the input reads as it did. -/
def tuneLeastSpec : ChangeSpec := { name := "tuneLeast", fn := fun _ => fun
  | [d1, d2] => { results := [.lit (.bool true)], args := [d1, d2] }
  | _ => none }
def tuneLeastRow : OpenClaim := { program := "ytejnhhjldddbdaa", sum := "4719be08a479b5156274960045d363eca88776e83e970143e7ca318b66058e50", func := "orchestrion/orchestrionlaw25.TuneLeast", spec := "tuneLeast", apart := false }
def TuneLeastSaid : Prop := tuneLeastRow.holds Try.pinned (OpenSpec.ofChange tuneLeastSpec)

/-- ITS FALSE NEIGHBOUR: 'it returns false'. Refute it at one input. -/
def tuneLeastWrong : ChangeSpec := { name := "tuneLeast", fn := fun _ => fun
  | [d1, d2] => { results := [.lit (.bool false)], args := [d1, d2] }
  | _ => none }
def TuneLeastWrongFalsely : Prop := tuneLeastRow.holds Try.pinned (OpenSpec.ofChange tuneLeastWrong)

/-- 'orchestrionlaw25.TuneCross': WHATEVER THE INPUT: true; the input reads as it did. -/
def tuneCrossSpec : ChangeSpec := { name := "tuneCross", fn := fun _ => fun
  | [d1, d2] => { results := [.lit (.bool true)], args := [d1, d2] }
  | _ => none }
def tuneCrossRow : OpenClaim := { program := "ytejnhhjldddbdaa", sum := "4719be08a479b5156274960045d363eca88776e83e970143e7ca318b66058e50", func := "orchestrion/orchestrionlaw25.TuneCross", spec := "tuneCross", unfollowed := true, recurses := true, apart := false }
def TuneCrossSaid : Prop := tuneCrossRow.holds Try.pinned (OpenSpec.ofChange tuneCrossSpec)

/-- ITS FALSE NEIGHBOUR: 'it returns false'. Refute it at one input. -/
def tuneCrossWrong : ChangeSpec := { name := "tuneCross", fn := fun _ => fun
  | [d1, d2] => { results := [.lit (.bool false)], args := [d1, d2] }
  | _ => none }
def TuneCrossWrongFalsely : Prop := tuneCrossRow.holds Try.pinned (OpenSpec.ofChange tuneCrossWrong)

/-- 'orchestrionlaw25.TuneLouder': WHATEVER THE INPUT: true; the input reads as it did. -/
def tuneLouderSpec : ChangeSpec := { name := "tuneLouder", fn := fun _ => fun
  | [d1, d2, d3] => { results := [.lit (.bool true)], args := [d1, d2, d3] }
  | _ => none }
def tuneLouderRow : OpenClaim := { program := "ytejnhhjldddbdaa", sum := "4719be08a479b5156274960045d363eca88776e83e970143e7ca318b66058e50", func := "orchestrion/orchestrionlaw25.TuneLouder", spec := "tuneLouder", unfollowed := true, recurses := true, apart := false }
def TuneLouderSaid : Prop := tuneLouderRow.holds Try.pinned (OpenSpec.ofChange tuneLouderSpec)

/-- ITS FALSE NEIGHBOUR: 'it returns false'. Refute it at one input. -/
def tuneLouderWrong : ChangeSpec := { name := "tuneLouder", fn := fun _ => fun
  | [d1, d2, d3] => { results := [.lit (.bool false)], args := [d1, d2, d3] }
  | _ => none }
def TuneLouderWrongFalsely : Prop := tuneLouderRow.holds Try.pinned (OpenSpec.ofChange tuneLouderWrong)

/-- 'orchestrionlaw25.TuneFade': WHATEVER THE INPUT: true; the input reads as it did. -/
def tuneFadeSpec : ChangeSpec := { name := "tuneFade", fn := fun _ => fun
  | [d] => { results := [.lit (.bool true)], args := [d] }
  | _ => none }
def tuneFadeRow : OpenClaim := { program := "ytejnhhjldddbdaa", sum := "4719be08a479b5156274960045d363eca88776e83e970143e7ca318b66058e50", func := "orchestrion/orchestrionlaw25.TuneFade", spec := "tuneFade", unfollowed := true, recurses := true, apart := false }
def TuneFadeSaid : Prop := tuneFadeRow.holds Try.pinned (OpenSpec.ofChange tuneFadeSpec)

/-- ITS FALSE NEIGHBOUR: 'it returns false'. Refute it at one input. -/
def tuneFadeWrong : ChangeSpec := { name := "tuneFade", fn := fun _ => fun
  | [d] => { results := [.lit (.bool false)], args := [d] }
  | _ => none }
def TuneFadeWrongFalsely : Prop := tuneFadeRow.holds Try.pinned (OpenSpec.ofChange tuneFadeWrong)

/-- 'orchestrionlaw25.TuneLevel': WHATEVER THE INPUT: true; the input reads as it did. -/
def tuneLevelSpec : ChangeSpec := { name := "tuneLevel", fn := fun _ => fun
  | [d] => { results := [.lit (.bool true)], args := [d] }
  | _ => none }
def tuneLevelRow : OpenClaim := { program := "ytejnhhjldddbdaa", sum := "4719be08a479b5156274960045d363eca88776e83e970143e7ca318b66058e50", func := "orchestrion/orchestrionlaw25.TuneLevel", spec := "tuneLevel", unfollowed := true, recurses := true, apart := false }
def TuneLevelSaid : Prop := tuneLevelRow.holds Try.pinned (OpenSpec.ofChange tuneLevelSpec)

/-- ITS FALSE NEIGHBOUR: 'it returns false'. Refute it at one input. -/
def tuneLevelWrong : ChangeSpec := { name := "tuneLevel", fn := fun _ => fun
  | [d] => { results := [.lit (.bool false)], args := [d] }
  | _ => none }
def TuneLevelWrongFalsely : Prop := tuneLevelRow.holds Try.pinned (OpenSpec.ofChange tuneLevelWrong)

/-- 'orchestrionlaw25.TuneResample': WHATEVER THE INPUT: true; the input reads as it did. -/
def tuneResampleSpec : ChangeSpec := { name := "tuneResample", fn := fun _ => fun
  | [d] => { results := [.lit (.bool true)], args := [d] }
  | _ => none }
def tuneResampleRow : OpenClaim := { program := "ytejnhhjldddbdaa", sum := "4719be08a479b5156274960045d363eca88776e83e970143e7ca318b66058e50", func := "orchestrion/orchestrionlaw25.TuneResample", spec := "tuneResample", unfollowed := true, recurses := true, apart := false }
def TuneResampleSaid : Prop := tuneResampleRow.holds Try.pinned (OpenSpec.ofChange tuneResampleSpec)

/-- ITS FALSE NEIGHBOUR: 'it returns false'. Refute it at one input. -/
def tuneResampleWrong : ChangeSpec := { name := "tuneResample", fn := fun _ => fun
  | [d] => { results := [.lit (.bool false)], args := [d] }
  | _ => none }
def TuneResampleWrongFalsely : Prop := tuneResampleRow.holds Try.pinned (OpenSpec.ofChange tuneResampleWrong)

/-- 'orchestrionlaw25.TuneSame': WHATEVER THE INPUT: true; the input reads as it did. -/
def tuneSameSpec : ChangeSpec := { name := "tuneSame", fn := fun _ => fun
  | [d1, d2, d3] => { results := [.lit (.bool true)], args := [d1, d2, d3] }
  | _ => none }
def tuneSameRow : OpenClaim := { program := "ytejnhhjldddbdaa", sum := "4719be08a479b5156274960045d363eca88776e83e970143e7ca318b66058e50", func := "orchestrion/orchestrionlaw25.TuneSame", spec := "tuneSame", unfollowed := true, recurses := true, apart := false }
def TuneSameSaid : Prop := tuneSameRow.holds Try.pinned (OpenSpec.ofChange tuneSameSpec)

/-- ITS FALSE NEIGHBOUR: 'it returns false'. Refute it at one input. -/
def tuneSameWrong : ChangeSpec := { name := "tuneSame", fn := fun _ => fun
  | [d1, d2, d3] => { results := [.lit (.bool false)], args := [d1, d2, d3] }
  | _ => none }
def TuneSameWrongFalsely : Prop := tuneSameRow.holds Try.pinned (OpenSpec.ofChange tuneSameWrong)

/-- 'orchestrionlaw25.TuneValid': WHATEVER THE INPUT: true; the input reads as it did. -/
def tuneValidSpec : ChangeSpec := { name := "tuneValid", fn := fun _ => fun
  | [d1, d2] => { results := [.lit (.bool true)], args := [d1, d2] }
  | _ => none }
def tuneValidRow : OpenClaim := { program := "ytejnhhjldddbdaa", sum := "4719be08a479b5156274960045d363eca88776e83e970143e7ca318b66058e50", func := "orchestrion/orchestrionlaw25.TuneValid", spec := "tuneValid", unfollowed := true, recurses := true, apart := false }
def TuneValidSaid : Prop := tuneValidRow.holds Try.pinned (OpenSpec.ofChange tuneValidSpec)

/-- ITS FALSE NEIGHBOUR: 'it returns false'. Refute it at one input. -/
def tuneValidWrong : ChangeSpec := { name := "tuneValid", fn := fun _ => fun
  | [d1, d2] => { results := [.lit (.bool false)], args := [d1, d2] }
  | _ => none }
def TuneValidWrongFalsely : Prop := tuneValidRow.holds Try.pinned (OpenSpec.ofChange tuneValidWrong)

/- THE SECOND FORM. 'bulk': how many values and letters a reading holds, each counted each time it is reached (what is shared counts as often as it is met; a slice's spare places count too). A statement '..UptoSaid' is the law's where the arguments, and the package variables that the reading takes, are together of bulk at most 1048576: NARROWER than '..Said'. Prove '..Said' where nothing that the law and all that it calls make is longer than what came in: it says more and counts as full. Else prove '..UptoSaid'. A law counts once. -/
mutual
def uptoBulk {H : Type} : DataW H → Nat
  | .lit (.string bytes) => bytes.length + 1
  | .lit _ => 1
  | .nil => 1
  | .ptr d => uptoBulk d + 1
  | .slice elems spare => uptoBulkAll elems + uptoBulkAll spare + 1
  | .agg parts => uptoBulkAll parts + 1
  | .iface _ d => uptoBulk d + 1
  | .map entries => uptoBulkEntries entries + 1
  | .held _ => 1
def uptoBulkAll {H : Type} : List (DataW H) → Nat
  | [] => 0
  | d :: r => uptoBulk d + uptoBulkAll r
def uptoBulkEntries {H : Type} : List (Lit × DataW H) → Nat
  | [] => 0
  | x :: r => uptoBulkEntry x + uptoBulkEntries r
def uptoBulkEntry {H : Type} : Lit × DataW H → Nat
  | (.string bytes, d) => bytes.length + uptoBulk d + 1
  | (_, d) => uptoBulk d + 1
 end
def uptoSmall : (H : Type) → List (DataW H) → Bool := fun _ ds => decide (uptoBulkAll ds ≤ 1048576)
def OpenSpec.upto (s : _root_.Go.ChangeSpec) : _root_.Go.OpenSpec := { _root_.Go.OpenSpec.ofChange s with cond := some uptoSmall }

/-- 'orchestrionlaw25.TuneMix', WHERE WHAT IT READS IS OF BULK AT MOST 1048576: true; the input reads as it did. -/
def tuneMixUptoRow : OpenClaim := { program := "ytejnhhjldddbdaa", sum := "4719be08a479b5156274960045d363eca88776e83e970143e7ca318b66058e50", func := "orchestrion/orchestrionlaw25.TuneMix", spec := "tuneMix", unfollowed := true, recurses := true, apart := false, narrowed := true }
def TuneMixUptoSaid : Prop := tuneMixUptoRow.holds Try.pinned (OpenSpec.upto tuneMixSpec)

/-- 'orchestrionlaw25.TuneDraw', WHERE WHAT IT READS IS OF BULK AT MOST 1048576: true; the input reads as it did. -/
def tuneDrawUptoRow : OpenClaim := { program := "ytejnhhjldddbdaa", sum := "4719be08a479b5156274960045d363eca88776e83e970143e7ca318b66058e50", func := "orchestrion/orchestrionlaw25.TuneDraw", spec := "tuneDraw", apart := false, narrowed := true }
def TuneDrawUptoSaid : Prop := tuneDrawUptoRow.holds Try.pinned (OpenSpec.upto tuneDrawSpec)

/-- 'orchestrionlaw25.TuneSlices', WHERE WHAT IT READS IS OF BULK AT MOST 1048576: true; the input reads as it did. -/
def tuneSlicesUptoRow : OpenClaim := { program := "ytejnhhjldddbdaa", sum := "4719be08a479b5156274960045d363eca88776e83e970143e7ca318b66058e50", func := "orchestrion/orchestrionlaw25.TuneSlices", spec := "tuneSlices", apart := false, narrowed := true }
def TuneSlicesUptoSaid : Prop := tuneSlicesUptoRow.holds Try.pinned (OpenSpec.upto tuneSlicesSpec)

/-- 'orchestrionlaw25.TuneLoop', WHERE WHAT IT READS IS OF BULK AT MOST 1048576: true; the input reads as it did. -/
def tuneLoopUptoRow : OpenClaim := { program := "ytejnhhjldddbdaa", sum := "4719be08a479b5156274960045d363eca88776e83e970143e7ca318b66058e50", func := "orchestrion/orchestrionlaw25.TuneLoop", spec := "tuneLoop", apart := false, narrowed := true }
def TuneLoopUptoSaid : Prop := tuneLoopUptoRow.holds Try.pinned (OpenSpec.upto tuneLoopSpec)

/-- 'orchestrionlaw25.TuneLeast', WHERE WHAT IT READS IS OF BULK AT MOST 1048576: true; the input reads as it did. -/
def tuneLeastUptoRow : OpenClaim := { program := "ytejnhhjldddbdaa", sum := "4719be08a479b5156274960045d363eca88776e83e970143e7ca318b66058e50", func := "orchestrion/orchestrionlaw25.TuneLeast", spec := "tuneLeast", apart := false, narrowed := true }
def TuneLeastUptoSaid : Prop := tuneLeastUptoRow.holds Try.pinned (OpenSpec.upto tuneLeastSpec)

/-- 'orchestrionlaw25.TuneCross', WHERE WHAT IT READS IS OF BULK AT MOST 1048576: true; the input reads as it did. -/
def tuneCrossUptoRow : OpenClaim := { program := "ytejnhhjldddbdaa", sum := "4719be08a479b5156274960045d363eca88776e83e970143e7ca318b66058e50", func := "orchestrion/orchestrionlaw25.TuneCross", spec := "tuneCross", unfollowed := true, recurses := true, apart := false, narrowed := true }
def TuneCrossUptoSaid : Prop := tuneCrossUptoRow.holds Try.pinned (OpenSpec.upto tuneCrossSpec)

/-- 'orchestrionlaw25.TuneLouder', WHERE WHAT IT READS IS OF BULK AT MOST 1048576: true; the input reads as it did. -/
def tuneLouderUptoRow : OpenClaim := { program := "ytejnhhjldddbdaa", sum := "4719be08a479b5156274960045d363eca88776e83e970143e7ca318b66058e50", func := "orchestrion/orchestrionlaw25.TuneLouder", spec := "tuneLouder", unfollowed := true, recurses := true, apart := false, narrowed := true }
def TuneLouderUptoSaid : Prop := tuneLouderUptoRow.holds Try.pinned (OpenSpec.upto tuneLouderSpec)

/-- 'orchestrionlaw25.TuneFade', WHERE WHAT IT READS IS OF BULK AT MOST 1048576: true; the input reads as it did. -/
def tuneFadeUptoRow : OpenClaim := { program := "ytejnhhjldddbdaa", sum := "4719be08a479b5156274960045d363eca88776e83e970143e7ca318b66058e50", func := "orchestrion/orchestrionlaw25.TuneFade", spec := "tuneFade", unfollowed := true, recurses := true, apart := false, narrowed := true }
def TuneFadeUptoSaid : Prop := tuneFadeUptoRow.holds Try.pinned (OpenSpec.upto tuneFadeSpec)

/-- 'orchestrionlaw25.TuneLevel', WHERE WHAT IT READS IS OF BULK AT MOST 1048576: true; the input reads as it did. -/
def tuneLevelUptoRow : OpenClaim := { program := "ytejnhhjldddbdaa", sum := "4719be08a479b5156274960045d363eca88776e83e970143e7ca318b66058e50", func := "orchestrion/orchestrionlaw25.TuneLevel", spec := "tuneLevel", unfollowed := true, recurses := true, apart := false, narrowed := true }
def TuneLevelUptoSaid : Prop := tuneLevelUptoRow.holds Try.pinned (OpenSpec.upto tuneLevelSpec)

/-- 'orchestrionlaw25.TuneResample', WHERE WHAT IT READS IS OF BULK AT MOST 1048576: true; the input reads as it did. -/
def tuneResampleUptoRow : OpenClaim := { program := "ytejnhhjldddbdaa", sum := "4719be08a479b5156274960045d363eca88776e83e970143e7ca318b66058e50", func := "orchestrion/orchestrionlaw25.TuneResample", spec := "tuneResample", unfollowed := true, recurses := true, apart := false, narrowed := true }
def TuneResampleUptoSaid : Prop := tuneResampleUptoRow.holds Try.pinned (OpenSpec.upto tuneResampleSpec)

/-- 'orchestrionlaw25.TuneSame', WHERE WHAT IT READS IS OF BULK AT MOST 1048576: true; the input reads as it did. -/
def tuneSameUptoRow : OpenClaim := { program := "ytejnhhjldddbdaa", sum := "4719be08a479b5156274960045d363eca88776e83e970143e7ca318b66058e50", func := "orchestrion/orchestrionlaw25.TuneSame", spec := "tuneSame", unfollowed := true, recurses := true, apart := false, narrowed := true }
def TuneSameUptoSaid : Prop := tuneSameUptoRow.holds Try.pinned (OpenSpec.upto tuneSameSpec)

/-- 'orchestrionlaw25.TuneValid', WHERE WHAT IT READS IS OF BULK AT MOST 1048576: true; the input reads as it did. -/
def tuneValidUptoRow : OpenClaim := { program := "ytejnhhjldddbdaa", sum := "4719be08a479b5156274960045d363eca88776e83e970143e7ca318b66058e50", func := "orchestrion/orchestrionlaw25.TuneValid", spec := "tuneValid", unfollowed := true, recurses := true, apart := false, narrowed := true }
def TuneValidUptoSaid : Prop := tuneValidUptoRow.holds Try.pinned (OpenSpec.upto tuneValidSpec)

end Rows
end Go.Proofs.Ytejnhhjldddbdaa

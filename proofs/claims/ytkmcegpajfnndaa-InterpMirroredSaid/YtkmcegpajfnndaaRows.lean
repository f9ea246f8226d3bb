/-
  No cell of these rows narrows 'for every input' (looked for: loops, veiled, ifaces, maps, wideKeys, modest, calm, conditions, laid).
  DERIVED. THE GIVEN ROWS OF THIS SEAT. 8 by the template 'for every input the law returns true; each argument reads behind the call as it read before'; 0 by the template 'total and deterministic' (their statements: YtkmcegpajfnndaaTotals.lean).
  GIVEN WITH THE SEED: the statements are not yours to turn. If you find one false, say at which input.
  Laid BY PROGRAM, IN A SANDBOX (cutbox-rows.mjs): the forced cells as the released guide's own fill.sh prints them over the translation e29eda8ec2932d2e… (all of the seat's roots in one cut). By AI agents, Wed Nov 11 2026. No macro, syntax, notation, axiom, sorry.
-/
import Derived.Test.YtkmcegpajfnndaaChecked
import GoSem.Claim
import GoSem.ClaimJoined
import GoSem.ClaimMapViews
import Derived.JoinedTies
import Derived.KernelRfl
namespace Go.Proofs.Ytkmcegpajfnndaa
/- THE CELL 'sum', in the pinned program and in every row, IS THE sha256 OF THE DUMP (.gsa) THAT YtkmcegpajfnndaaProg.lean LOADS. Nothing in Lean hashes anything: it is a label: what it is worth is what the hold of that sum in a sandbox is worth. -/
noncomputable def Try.pinned : Pinned := { name := "ytkmcegpajfnndaa", sum := "e29eda8ec2932d2e357500041e53db7bcb86449a0535c34b1d0f837699d9088f", checked := Try.checked }
namespace Rows
def none {H : Type} : Left H := { results := [], args := [] }

/-- 'orchestrionlaw13.InterpWeights': WHATEVER THE INPUT: true; the input reads as it did. -/
def interpWeightsSpec : ChangeSpec := { name := "interpWeights", fn := fun _ => fun
  | [d1, d2] => { results := [.lit (.bool true)], args := [d1, d2] }
  | _ => none }
def interpWeightsRow : OpenClaim := { program := "ytkmcegpajfnndaa", sum := "e29eda8ec2932d2e357500041e53db7bcb86449a0535c34b1d0f837699d9088f", func := "orchestrion/orchestrionlaw13.InterpWeights", spec := "interpWeights", unfollowed := true, recurses := true, apart := false }
def InterpWeightsSaid : Prop := interpWeightsRow.holds Try.pinned (OpenSpec.ofChange interpWeightsSpec)

/-- ITS FALSE NEIGHBOUR: 'it returns false'. Refute it at one input. -/
def interpWeightsWrong : ChangeSpec := { name := "interpWeights", fn := fun _ => fun
  | [d1, d2] => { results := [.lit (.bool false)], args := [d1, d2] }
  | _ => none }
def InterpWeightsWrongFalsely : Prop := interpWeightsRow.holds Try.pinned (OpenSpec.ofChange interpWeightsWrong)

/-- 'orchestrionlaw13.InterpMirrored': WHATEVER THE INPUT: true; the input reads as it did. -/
def interpMirroredSpec : ChangeSpec := { name := "interpMirrored", fn := fun _ => fun
  | [d1, d2] => { results := [.lit (.bool true)], args := [d1, d2] }
  | _ => none }
def interpMirroredRow : OpenClaim := { program := "ytkmcegpajfnndaa", sum := "e29eda8ec2932d2e357500041e53db7bcb86449a0535c34b1d0f837699d9088f", func := "orchestrion/orchestrionlaw13.InterpMirrored", spec := "interpMirrored", unfollowed := true, recurses := true, apart := false }
def InterpMirroredSaid : Prop := interpMirroredRow.holds Try.pinned (OpenSpec.ofChange interpMirroredSpec)

/-- ITS FALSE NEIGHBOUR: 'it returns false'. Refute it at one input. -/
def interpMirroredWrong : ChangeSpec := { name := "interpMirrored", fn := fun _ => fun
  | [d1, d2] => { results := [.lit (.bool false)], args := [d1, d2] }
  | _ => none }
def InterpMirroredWrongFalsely : Prop := interpMirroredRow.holds Try.pinned (OpenSpec.ofChange interpMirroredWrong)

/-- 'orchestrionlaw13.InterpValue': WHATEVER THE INPUT: true; the input reads as it did. -/
def interpValueSpec : ChangeSpec := { name := "interpValue", fn := fun _ => fun
  | [d1, d2, d3] => { results := [.lit (.bool true)], args := [d1, d2, d3] }
  | _ => none }
def interpValueRow : OpenClaim := { program := "ytkmcegpajfnndaa", sum := "e29eda8ec2932d2e357500041e53db7bcb86449a0535c34b1d0f837699d9088f", func := "orchestrion/orchestrionlaw13.InterpValue", spec := "interpValue", unfollowed := true, recurses := true, apart := false }
def InterpValueSaid : Prop := interpValueRow.holds Try.pinned (OpenSpec.ofChange interpValueSpec)

/-- ITS FALSE NEIGHBOUR: 'it returns false'. Refute it at one input. -/
def interpValueWrong : ChangeSpec := { name := "interpValue", fn := fun _ => fun
  | [d1, d2, d3] => { results := [.lit (.bool false)], args := [d1, d2, d3] }
  | _ => none }
def InterpValueWrongFalsely : Prop := interpValueRow.holds Try.pinned (OpenSpec.ofChange interpValueWrong)

/-- 'orchestrionlaw13.InterpFrames': WHATEVER THE INPUT: true; the input reads as it did. -/
def interpFramesSpec : ChangeSpec := { name := "interpFrames", fn := fun _ => fun
  | [d1, d2] => { results := [.lit (.bool true)], args := [d1, d2] }
  | _ => none }
def interpFramesRow : OpenClaim := { program := "ytkmcegpajfnndaa", sum := "e29eda8ec2932d2e357500041e53db7bcb86449a0535c34b1d0f837699d9088f", func := "orchestrion/orchestrionlaw13.InterpFrames", spec := "interpFrames", unfollowed := true, recurses := true, apart := false }
def InterpFramesSaid : Prop := interpFramesRow.holds Try.pinned (OpenSpec.ofChange interpFramesSpec)

/-- ITS FALSE NEIGHBOUR: 'it returns false'. Refute it at one input. -/
def interpFramesWrong : ChangeSpec := { name := "interpFrames", fn := fun _ => fun
  | [d1, d2] => { results := [.lit (.bool false)], args := [d1, d2] }
  | _ => none }
def InterpFramesWrongFalsely : Prop := interpFramesRow.holds Try.pinned (OpenSpec.ofChange interpFramesWrong)

/-- 'orchestrionlaw13.InterpOne': WHATEVER THE INPUT: true; the input reads as it did. -/
def interpOneSpec : ChangeSpec := { name := "interpOne", fn := fun _ => fun
  | [d1, d2, d3] => { results := [.lit (.bool true)], args := [d1, d2, d3] }
  | _ => none }
def interpOneRow : OpenClaim := { program := "ytkmcegpajfnndaa", sum := "e29eda8ec2932d2e357500041e53db7bcb86449a0535c34b1d0f837699d9088f", func := "orchestrion/orchestrionlaw13.InterpOne", spec := "interpOne", unfollowed := true, recurses := true, apart := false }
def InterpOneSaid : Prop := interpOneRow.holds Try.pinned (OpenSpec.ofChange interpOneSpec)

/-- ITS FALSE NEIGHBOUR: 'it returns false'. Refute it at one input. -/
def interpOneWrong : ChangeSpec := { name := "interpOne", fn := fun _ => fun
  | [d1, d2, d3] => { results := [.lit (.bool false)], args := [d1, d2, d3] }
  | _ => none }
def InterpOneWrongFalsely : Prop := interpOneRow.holds Try.pinned (OpenSpec.ofChange interpOneWrong)

/-- 'orchestrionlaw13.InterpBetween': WHATEVER THE INPUT: true; the input reads as it did. -/
def interpBetweenSpec : ChangeSpec := { name := "interpBetween", fn := fun _ => fun
  | [d1, d2, d3] => { results := [.lit (.bool true)], args := [d1, d2, d3] }
  | _ => none }
def interpBetweenRow : OpenClaim := { program := "ytkmcegpajfnndaa", sum := "e29eda8ec2932d2e357500041e53db7bcb86449a0535c34b1d0f837699d9088f", func := "orchestrion/orchestrionlaw13.InterpBetween", spec := "interpBetween", unfollowed := true, recurses := true, apart := false }
def InterpBetweenSaid : Prop := interpBetweenRow.holds Try.pinned (OpenSpec.ofChange interpBetweenSpec)

/-- ITS FALSE NEIGHBOUR: 'it returns false'. Refute it at one input. -/
def interpBetweenWrong : ChangeSpec := { name := "interpBetween", fn := fun _ => fun
  | [d1, d2, d3] => { results := [.lit (.bool false)], args := [d1, d2, d3] }
  | _ => none }
def InterpBetweenWrongFalsely : Prop := interpBetweenRow.holds Try.pinned (OpenSpec.ofChange interpBetweenWrong)

/-- 'orchestrionlaw13.InterpAt': WHATEVER THE INPUT: true; the input reads as it did. -/
def interpAtSpec : ChangeSpec := { name := "interpAt", fn := fun _ => fun
  | [d] => { results := [.lit (.bool true)], args := [d] }
  | _ => none }
def interpAtRow : OpenClaim := { program := "ytkmcegpajfnndaa", sum := "e29eda8ec2932d2e357500041e53db7bcb86449a0535c34b1d0f837699d9088f", func := "orchestrion/orchestrionlaw13.InterpAt", spec := "interpAt", unfollowed := true, recurses := true, apart := false }
def InterpAtSaid : Prop := interpAtRow.holds Try.pinned (OpenSpec.ofChange interpAtSpec)

/-- ITS FALSE NEIGHBOUR: 'it returns false'. Refute it at one input. -/
def interpAtWrong : ChangeSpec := { name := "interpAt", fn := fun _ => fun
  | [d] => { results := [.lit (.bool false)], args := [d] }
  | _ => none }
def InterpAtWrongFalsely : Prop := interpAtRow.holds Try.pinned (OpenSpec.ofChange interpAtWrong)

/-- 'orchestrionlaw13.InterpResample': WHATEVER THE INPUT: true; the input reads as it did. -/
def interpResampleSpec : ChangeSpec := { name := "interpResample", fn := fun _ => fun
  | [d] => { results := [.lit (.bool true)], args := [d] }
  | _ => none }
def interpResampleRow : OpenClaim := { program := "ytkmcegpajfnndaa", sum := "e29eda8ec2932d2e357500041e53db7bcb86449a0535c34b1d0f837699d9088f", func := "orchestrion/orchestrionlaw13.InterpResample", spec := "interpResample", unfollowed := true, recurses := true, apart := false }
def InterpResampleSaid : Prop := interpResampleRow.holds Try.pinned (OpenSpec.ofChange interpResampleSpec)

/-- ITS FALSE NEIGHBOUR: 'it returns false'. Refute it at one input. -/
def interpResampleWrong : ChangeSpec := { name := "interpResample", fn := fun _ => fun
  | [d] => { results := [.lit (.bool false)], args := [d] }
  | _ => none }
def InterpResampleWrongFalsely : Prop := interpResampleRow.holds Try.pinned (OpenSpec.ofChange interpResampleWrong)

/- THE SECOND FORM. 'bulk': how many values and letters a reading holds, each counted each time it is reached (what is shared counts as often as it is met; a slice's spare places count too). A statement '..UptoSaid' is the law's where the arguments, and the package variables that the reading takes, are together of bulk at most 1048576: NARROWER than '..Said'. Prove '..Said' where nothing that the law and all that it calls make is longer than what came in: it says more and counts as full. Else prove '..UptoSaid'. A law counts once. -/
mutual
def uptoBulk {H : Type} : DataW H → Nat
  | .lit (.string bytes) => bytes.length + 1
  | .lit _ => 1
  | .nil => 1
  | .ptr d => uptoBulk d + 1
  | .slice elems spare => uptoBulkAll elems + uptoBulkAll spare + 1
  | .agg parts => uptoBulkAll parts + 1
  | .iface _ d => uptoBulk d + 1
  | .map entries => uptoBulkEntries entries + 1
  | .held _ => 1
def uptoBulkAll {H : Type} : List (DataW H) → Nat
  | [] => 0
  | d :: r => uptoBulk d + uptoBulkAll r
def uptoBulkEntries {H : Type} : List (Lit × DataW H) → Nat
  | [] => 0
  | x :: r => uptoBulkEntry x + uptoBulkEntries r
def uptoBulkEntry {H : Type} : Lit × DataW H → Nat
  | (.string bytes, d) => bytes.length + uptoBulk d + 1
  | (_, d) => uptoBulk d + 1
 end
def uptoSmall : (H : Type) → List (DataW H) → Bool := fun _ ds => decide (uptoBulkAll ds ≤ 1048576)
def OpenSpec.upto (s : _root_.Go.ChangeSpec) : _root_.Go.OpenSpec := { _root_.Go.OpenSpec.ofChange s with cond := some uptoSmall }

/-- 'orchestrionlaw13.InterpWeights', WHERE WHAT IT READS IS OF BULK AT MOST 1048576: true; the input reads as it did. -/
def interpWeightsUptoRow : OpenClaim := { program := "ytkmcegpajfnndaa", sum := "e29eda8ec2932d2e357500041e53db7bcb86449a0535c34b1d0f837699d9088f", func := "orchestrion/orchestrionlaw13.InterpWeights", spec := "interpWeights", unfollowed := true, recurses := true, apart := false, narrowed := true }
def InterpWeightsUptoSaid : Prop := interpWeightsUptoRow.holds Try.pinned (OpenSpec.upto interpWeightsSpec)

/-- 'orchestrionlaw13.InterpMirrored', WHERE WHAT IT READS IS OF BULK AT MOST 1048576: true; the input reads as it did. -/
def interpMirroredUptoRow : OpenClaim := { program := "ytkmcegpajfnndaa", sum := "e29eda8ec2932d2e357500041e53db7bcb86449a0535c34b1d0f837699d9088f", func := "orchestrion/orchestrionlaw13.InterpMirrored", spec := "interpMirrored", unfollowed := true, recurses := true, apart := false, narrowed := true }
def InterpMirroredUptoSaid : Prop := interpMirroredUptoRow.holds Try.pinned (OpenSpec.upto interpMirroredSpec)

/-- 'orchestrionlaw13.InterpValue', WHERE WHAT IT READS IS OF BULK AT MOST 1048576: true; the input reads as it did. -/
def interpValueUptoRow : OpenClaim := { program := "ytkmcegpajfnndaa", sum := "e29eda8ec2932d2e357500041e53db7bcb86449a0535c34b1d0f837699d9088f", func := "orchestrion/orchestrionlaw13.InterpValue", spec := "interpValue", unfollowed := true, recurses := true, apart := false, narrowed := true }
def InterpValueUptoSaid : Prop := interpValueUptoRow.holds Try.pinned (OpenSpec.upto interpValueSpec)

/-- 'orchestrionlaw13.InterpFrames', WHERE WHAT IT READS IS OF BULK AT MOST 1048576: true; the input reads as it did. -/
def interpFramesUptoRow : OpenClaim := { program := "ytkmcegpajfnndaa", sum := "e29eda8ec2932d2e357500041e53db7bcb86449a0535c34b1d0f837699d9088f", func := "orchestrion/orchestrionlaw13.InterpFrames", spec := "interpFrames", unfollowed := true, recurses := true, apart := false, narrowed := true }
def InterpFramesUptoSaid : Prop := interpFramesUptoRow.holds Try.pinned (OpenSpec.upto interpFramesSpec)

/-- 'orchestrionlaw13.InterpOne', WHERE WHAT IT READS IS OF BULK AT MOST 1048576: true; the input reads as it did. -/
def interpOneUptoRow : OpenClaim := { program := "ytkmcegpajfnndaa", sum := "e29eda8ec2932d2e357500041e53db7bcb86449a0535c34b1d0f837699d9088f", func := "orchestrion/orchestrionlaw13.InterpOne", spec := "interpOne", unfollowed := true, recurses := true, apart := false, narrowed := true }
def InterpOneUptoSaid : Prop := interpOneUptoRow.holds Try.pinned (OpenSpec.upto interpOneSpec)

/-- 'orchestrionlaw13.InterpBetween', WHERE WHAT IT READS IS OF BULK AT MOST 1048576: true; the input reads as it did. -/
def interpBetweenUptoRow : OpenClaim := { program := "ytkmcegpajfnndaa", sum := "e29eda8ec2932d2e357500041e53db7bcb86449a0535c34b1d0f837699d9088f", func := "orchestrion/orchestrionlaw13.InterpBetween", spec := "interpBetween", unfollowed := true, recurses := true, apart := false, narrowed := true }
def InterpBetweenUptoSaid : Prop := interpBetweenUptoRow.holds Try.pinned (OpenSpec.upto interpBetweenSpec)

/-- 'orchestrionlaw13.InterpAt', WHERE WHAT IT READS IS OF BULK AT MOST 1048576: true; the input reads as it did. -/
def interpAtUptoRow : OpenClaim := { program := "ytkmcegpajfnndaa", sum := "e29eda8ec2932d2e357500041e53db7bcb86449a0535c34b1d0f837699d9088f", func := "orchestrion/orchestrionlaw13.InterpAt", spec := "interpAt", unfollowed := true, recurses := true, apart := false, narrowed := true }
def InterpAtUptoSaid : Prop := interpAtUptoRow.holds Try.pinned (OpenSpec.upto interpAtSpec)

/-- 'orchestrionlaw13.InterpResample', WHERE WHAT IT READS IS OF BULK AT MOST 1048576: true; the input reads as it did. -/
def interpResampleUptoRow : OpenClaim := { program := "ytkmcegpajfnndaa", sum := "e29eda8ec2932d2e357500041e53db7bcb86449a0535c34b1d0f837699d9088f", func := "orchestrion/orchestrionlaw13.InterpResample", spec := "interpResample", unfollowed := true, recurses := true, apart := false, narrowed := true }
def InterpResampleUptoSaid : Prop := interpResampleUptoRow.holds Try.pinned (OpenSpec.upto interpResampleSpec)

end Rows
end Go.Proofs.Ytkmcegpajfnndaa

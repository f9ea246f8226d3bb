/-
  No cell of these rows narrows 'for every input' (looked for: loops, veiled, ifaces, maps, wideKeys, modest, calm, conditions, laid).
  DERIVED. THE GIVEN ROWS OF THIS SEAT. 11 by the template 'for every input the law returns true; each argument reads behind the call as it read before'; 0 by the template 'total and deterministic' (their statements: YtfpgidflaaefeaaTotals.lean).
  GIVEN WITH THE SEED: the statements are not yours to turn. If you find one false, say at which input.
  Laid BY PROGRAM, IN A SANDBOX (cutbox-rows.mjs): the forced cells as the released guide's own fill.sh prints them over the translation 5795784d61c89664… (all of the seat's roots in one cut). By AI agents, Wed Nov 11 2026. No macro, syntax, notation, axiom, sorry.
-/
import Derived.Test.YtfpgidflaaefeaaChecked
import GoSem.Claim
import GoSem.ClaimJoined
import GoSem.ClaimMapViews
import Derived.JoinedTies
import Derived.KernelRfl
namespace Go.Proofs.Ytfpgidflaaefeaa
/- THE CELL 'sum', in the pinned program and in every row, IS THE sha256 OF THE DUMP (.gsa) THAT YtfpgidflaaefeaaProg.lean LOADS. Nothing in Lean hashes anything: it is a label: what it is worth is what the hold of that sum in a sandbox is worth. -/
noncomputable def Try.pinned : Pinned := { name := "ytfpgidflaaefeaa", sum := "5795784d61c8966459679298b34b247382d48bdcaf2b6585e5c9e413e2497750", checked := Try.checked }
namespace Rows
def none {H : Type} : Left H := { results := [], args := [] }

/-- 'orchestrionlaw15.ChipLevels': WHATEVER THE INPUT: true; the input reads as it did. -/
def chipLevelsSpec : ChangeSpec := { name := "chipLevels", fn := fun _ => fun
  | [] => { results := [.lit (.bool true)], args := [] }
  | _ => none }
def chipLevelsRow : OpenClaim := { program := "ytfpgidflaaefeaa", sum := "5795784d61c8966459679298b34b247382d48bdcaf2b6585e5c9e413e2497750", func := "orchestrion/orchestrionlaw15.ChipLevels", spec := "chipLevels", apart := false }
def ChipLevelsSaid : Prop := chipLevelsRow.holds Try.pinned (OpenSpec.ofChange chipLevelsSpec)

/-- ITS FALSE NEIGHBOUR: 'it returns false'. Refute it at one input. -/
def chipLevelsWrong : ChangeSpec := { name := "chipLevels", fn := fun _ => fun
  | [] => { results := [.lit (.bool false)], args := [] }
  | _ => none }
def ChipLevelsWrongFalsely : Prop := chipLevelsRow.holds Try.pinned (OpenSpec.ofChange chipLevelsWrong)

/-- 'orchestrionlaw15.ChipEnvelope': WHATEVER THE INPUT: true; the input reads as it did. -/
def chipEnvelopeSpec : ChangeSpec := { name := "chipEnvelope", fn := fun _ => fun
  | [d1, d2] => { results := [.lit (.bool true)], args := [d1, d2] }
  | _ => none }
def chipEnvelopeRow : OpenClaim := { program := "ytfpgidflaaefeaa", sum := "5795784d61c8966459679298b34b247382d48bdcaf2b6585e5c9e413e2497750", func := "orchestrion/orchestrionlaw15.ChipEnvelope", spec := "chipEnvelope", apart := false }
def ChipEnvelopeSaid : Prop := chipEnvelopeRow.holds Try.pinned (OpenSpec.ofChange chipEnvelopeSpec)

/-- ITS FALSE NEIGHBOUR: 'it returns false'. Refute it at one input. -/
def chipEnvelopeWrong : ChangeSpec := { name := "chipEnvelope", fn := fun _ => fun
  | [d1, d2] => { results := [.lit (.bool false)], args := [d1, d2] }
  | _ => none }
def ChipEnvelopeWrongFalsely : Prop := chipEnvelopeRow.holds Try.pinned (OpenSpec.ofChange chipEnvelopeWrong)

/-- 'orchestrionlaw15.ChipShapes': WHATEVER THE INPUT: true; the input reads as it did. -/
def chipShapesSpec : ChangeSpec := { name := "chipShapes", fn := fun _ => fun
  | [d] => { results := [.lit (.bool true)], args := [d] }
  | _ => none }
def chipShapesRow : OpenClaim := { program := "ytfpgidflaaefeaa", sum := "5795784d61c8966459679298b34b247382d48bdcaf2b6585e5c9e413e2497750", func := "orchestrion/orchestrionlaw15.ChipShapes", spec := "chipShapes", apart := false }
def ChipShapesSaid : Prop := chipShapesRow.holds Try.pinned (OpenSpec.ofChange chipShapesSpec)

/-- ITS FALSE NEIGHBOUR: 'it returns false'. Refute it at one input. -/
def chipShapesWrong : ChangeSpec := { name := "chipShapes", fn := fun _ => fun
  | [d] => { results := [.lit (.bool false)], args := [d] }
  | _ => none }
def ChipShapesWrongFalsely : Prop := chipShapesRow.holds Try.pinned (OpenSpec.ofChange chipShapesWrong)

/-- 'orchestrionlaw15.ChipBounds': WHATEVER THE INPUT: true; the input reads as it did. -/
def chipBoundsSpec : ChangeSpec := { name := "chipBounds", fn := fun _ => fun
  | [d1, d2] => { results := [.lit (.bool true)], args := [d1, d2] }
  | _ => none }
def chipBoundsRow : OpenClaim := { program := "ytfpgidflaaefeaa", sum := "5795784d61c8966459679298b34b247382d48bdcaf2b6585e5c9e413e2497750", func := "orchestrion/orchestrionlaw15.ChipBounds", spec := "chipBounds", apart := false }
def ChipBoundsSaid : Prop := chipBoundsRow.holds Try.pinned (OpenSpec.ofChange chipBoundsSpec)

/-- ITS FALSE NEIGHBOUR: 'it returns false'. Refute it at one input. -/
def chipBoundsWrong : ChangeSpec := { name := "chipBounds", fn := fun _ => fun
  | [d1, d2] => { results := [.lit (.bool false)], args := [d1, d2] }
  | _ => none }
def ChipBoundsWrongFalsely : Prop := chipBoundsRow.holds Try.pinned (OpenSpec.ofChange chipBoundsWrong)

/-- 'orchestrionlaw15.ChipNoise': WHATEVER THE INPUT: true; the input reads as it did. -/
def chipNoiseSpec : ChangeSpec := { name := "chipNoise", fn := fun _ => fun
  | [] => { results := [.lit (.bool true)], args := [] }
  | _ => none }
def chipNoiseRow : OpenClaim := { program := "ytfpgidflaaefeaa", sum := "5795784d61c8966459679298b34b247382d48bdcaf2b6585e5c9e413e2497750", func := "orchestrion/orchestrionlaw15.ChipNoise", spec := "chipNoise", apart := false }
def ChipNoiseSaid : Prop := chipNoiseRow.holds Try.pinned (OpenSpec.ofChange chipNoiseSpec)

/-- ITS FALSE NEIGHBOUR: 'it returns false'. Refute it at one input. -/
def chipNoiseWrong : ChangeSpec := { name := "chipNoise", fn := fun _ => fun
  | [] => { results := [.lit (.bool false)], args := [] }
  | _ => none }
def ChipNoiseWrongFalsely : Prop := chipNoiseRow.holds Try.pinned (OpenSpec.ofChange chipNoiseWrong)

/-- 'orchestrionlaw15.ChipState': WHATEVER THE INPUT: true; the input reads as it did. -/
def chipStateSpec : ChangeSpec := { name := "chipState", fn := fun _ => fun
  | [d1, d2] => { results := [.lit (.bool true)], args := [d1, d2] }
  | _ => none }
def chipStateRow : OpenClaim := { program := "ytfpgidflaaefeaa", sum := "5795784d61c8966459679298b34b247382d48bdcaf2b6585e5c9e413e2497750", func := "orchestrion/orchestrionlaw15.ChipState", spec := "chipState", apart := false }
def ChipStateSaid : Prop := chipStateRow.holds Try.pinned (OpenSpec.ofChange chipStateSpec)

/-- ITS FALSE NEIGHBOUR: 'it returns false'. Refute it at one input. -/
def chipStateWrong : ChangeSpec := { name := "chipState", fn := fun _ => fun
  | [d1, d2] => { results := [.lit (.bool false)], args := [d1, d2] }
  | _ => none }
def ChipStateWrongFalsely : Prop := chipStateRow.holds Try.pinned (OpenSpec.ofChange chipStateWrong)

/-- 'orchestrionlaw15.ChipSound': WHATEVER THE INPUT: true; the input reads as it did. -/
def chipSoundSpec : ChangeSpec := { name := "chipSound", fn := fun _ => fun
  | [d] => { results := [.lit (.bool true)], args := [d] }
  | _ => none }
def chipSoundRow : OpenClaim := { program := "ytfpgidflaaefeaa", sum := "5795784d61c8966459679298b34b247382d48bdcaf2b6585e5c9e413e2497750", func := "orchestrion/orchestrionlaw15.ChipSound", spec := "chipSound", apart := false }
def ChipSoundSaid : Prop := chipSoundRow.holds Try.pinned (OpenSpec.ofChange chipSoundSpec)

/-- ITS FALSE NEIGHBOUR: 'it returns false'. Refute it at one input. -/
def chipSoundWrong : ChangeSpec := { name := "chipSound", fn := fun _ => fun
  | [d] => { results := [.lit (.bool false)], args := [d] }
  | _ => none }
def ChipSoundWrongFalsely : Prop := chipSoundRow.holds Try.pinned (OpenSpec.ofChange chipSoundWrong)

/-- 'orchestrionlaw15.ChipSquare': WHATEVER THE INPUT: true; the input reads as it did. -/
def chipSquareSpec : ChangeSpec := { name := "chipSquare", fn := fun _ => fun
  | [d1, d2] => { results := [.lit (.bool true)], args := [d1, d2] }
  | _ => none }
def chipSquareRow : OpenClaim := { program := "ytfpgidflaaefeaa", sum := "5795784d61c8966459679298b34b247382d48bdcaf2b6585e5c9e413e2497750", func := "orchestrion/orchestrionlaw15.ChipSquare", spec := "chipSquare", apart := false }
def ChipSquareSaid : Prop := chipSquareRow.holds Try.pinned (OpenSpec.ofChange chipSquareSpec)

/-- ITS FALSE NEIGHBOUR: 'it returns false'. Refute it at one input. -/
def chipSquareWrong : ChangeSpec := { name := "chipSquare", fn := fun _ => fun
  | [d1, d2] => { results := [.lit (.bool false)], args := [d1, d2] }
  | _ => none }
def ChipSquareWrongFalsely : Prop := chipSquareRow.holds Try.pinned (OpenSpec.ofChange chipSquareWrong)

/-- 'orchestrionlaw15.ChipPlay': WHATEVER THE INPUT: true; the input reads as it did. -/
def chipPlaySpec : ChangeSpec := { name := "chipPlay", fn := fun _ => fun
  | [d1, d2] => { results := [.lit (.bool true)], args := [d1, d2] }
  | _ => none }
def chipPlayRow : OpenClaim := { program := "ytfpgidflaaefeaa", sum := "5795784d61c8966459679298b34b247382d48bdcaf2b6585e5c9e413e2497750", func := "orchestrion/orchestrionlaw15.ChipPlay", spec := "chipPlay", apart := false }
def ChipPlaySaid : Prop := chipPlayRow.holds Try.pinned (OpenSpec.ofChange chipPlaySpec)

/-- ITS FALSE NEIGHBOUR: 'it returns false'. Refute it at one input. -/
def chipPlayWrong : ChangeSpec := { name := "chipPlay", fn := fun _ => fun
  | [d1, d2] => { results := [.lit (.bool false)], args := [d1, d2] }
  | _ => none }
def ChipPlayWrongFalsely : Prop := chipPlayRow.holds Try.pinned (OpenSpec.ofChange chipPlayWrong)

/-- 'orchestrionlaw15.ChipRun': WHATEVER THE INPUT: true; the input reads as it did. -/
def chipRunSpec : ChangeSpec := { name := "chipRun", fn := fun _ => fun
  | [d] => { results := [.lit (.bool true)], args := [d] }
  | _ => none }
def chipRunRow : OpenClaim := { program := "ytfpgidflaaefeaa", sum := "5795784d61c8966459679298b34b247382d48bdcaf2b6585e5c9e413e2497750", func := "orchestrion/orchestrionlaw15.ChipRun", spec := "chipRun", apart := false }
def ChipRunSaid : Prop := chipRunRow.holds Try.pinned (OpenSpec.ofChange chipRunSpec)

/-- ITS FALSE NEIGHBOUR: 'it returns false'. Refute it at one input. -/
def chipRunWrong : ChangeSpec := { name := "chipRun", fn := fun _ => fun
  | [d] => { results := [.lit (.bool false)], args := [d] }
  | _ => none }
def ChipRunWrongFalsely : Prop := chipRunRow.holds Try.pinned (OpenSpec.ofChange chipRunWrong)

/-- 'orchestrionlaw15.ChipDivided': WHATEVER THE INPUT: true; the input reads as it did. -/
def chipDividedSpec : ChangeSpec := { name := "chipDivided", fn := fun _ => fun
  | [d1, d2, d3] => { results := [.lit (.bool true)], args := [d1, d2, d3] }
  | _ => none }
def chipDividedRow : OpenClaim := { program := "ytfpgidflaaefeaa", sum := "5795784d61c8966459679298b34b247382d48bdcaf2b6585e5c9e413e2497750", func := "orchestrion/orchestrionlaw15.ChipDivided", spec := "chipDivided", apart := false }
def ChipDividedSaid : Prop := chipDividedRow.holds Try.pinned (OpenSpec.ofChange chipDividedSpec)

/-- ITS FALSE NEIGHBOUR: 'it returns false'. Refute it at one input. -/
def chipDividedWrong : ChangeSpec := { name := "chipDivided", fn := fun _ => fun
  | [d1, d2, d3] => { results := [.lit (.bool false)], args := [d1, d2, d3] }
  | _ => none }
def ChipDividedWrongFalsely : Prop := chipDividedRow.holds Try.pinned (OpenSpec.ofChange chipDividedWrong)

/- THE SECOND FORM. 'bulk': how many values and letters a reading holds, each counted each time it is reached (what is shared counts as often as it is met; a slice's spare places count too). A statement '..UptoSaid' is the law's where the arguments, and the package variables that the reading takes, are together of bulk at most 1048576: NARROWER than '..Said'. Prove '..Said' where nothing that the law and all that it calls make is longer than what came in: it says more and counts as full. Else prove '..UptoSaid'. A law counts once. -/
mutual
def uptoBulk {H : Type} : DataW H → Nat
  | .lit (.string bytes) => bytes.length + 1
  | .lit _ => 1
  | .nil => 1
  | .ptr d => uptoBulk d + 1
  | .slice elems spare => uptoBulkAll elems + uptoBulkAll spare + 1
  | .agg parts => uptoBulkAll parts + 1
  | .iface _ d => uptoBulk d + 1
  | .map entries => uptoBulkEntries entries + 1
  | .held _ => 1
def uptoBulkAll {H : Type} : List (DataW H) → Nat
  | [] => 0
  | d :: r => uptoBulk d + uptoBulkAll r
def uptoBulkEntries {H : Type} : List (Lit × DataW H) → Nat
  | [] => 0
  | x :: r => uptoBulkEntry x + uptoBulkEntries r
def uptoBulkEntry {H : Type} : Lit × DataW H → Nat
  | (.string bytes, d) => bytes.length + uptoBulk d + 1
  | (_, d) => uptoBulk d + 1
 end
def uptoSmall : (H : Type) → List (DataW H) → Bool := fun _ ds => decide (uptoBulkAll ds ≤ 1048576)
def OpenSpec.upto (s : _root_.Go.ChangeSpec) : _root_.Go.OpenSpec := { _root_.Go.OpenSpec.ofChange s with cond := some uptoSmall }

/-- 'orchestrionlaw15.ChipLevels', WHERE WHAT IT READS IS OF BULK AT MOST 1048576: true; the input reads as it did. -/
def chipLevelsUptoRow : OpenClaim := { program := "ytfpgidflaaefeaa", sum := "5795784d61c8966459679298b34b247382d48bdcaf2b6585e5c9e413e2497750", func := "orchestrion/orchestrionlaw15.ChipLevels", spec := "chipLevels", apart := false, narrowed := true }
def ChipLevelsUptoSaid : Prop := chipLevelsUptoRow.holds Try.pinned (OpenSpec.upto chipLevelsSpec)

/-- 'orchestrionlaw15.ChipEnvelope', WHERE WHAT IT READS IS OF BULK AT MOST 1048576: true; the input reads as it did. -/
def chipEnvelopeUptoRow : OpenClaim := { program := "ytfpgidflaaefeaa", sum := "5795784d61c8966459679298b34b247382d48bdcaf2b6585e5c9e413e2497750", func := "orchestrion/orchestrionlaw15.ChipEnvelope", spec := "chipEnvelope", apart := false, narrowed := true }
def ChipEnvelopeUptoSaid : Prop := chipEnvelopeUptoRow.holds Try.pinned (OpenSpec.upto chipEnvelopeSpec)

/-- 'orchestrionlaw15.ChipShapes', WHERE WHAT IT READS IS OF BULK AT MOST 1048576: true; the input reads as it did. -/
def chipShapesUptoRow : OpenClaim := { program := "ytfpgidflaaefeaa", sum := "5795784d61c8966459679298b34b247382d48bdcaf2b6585e5c9e413e2497750", func := "orchestrion/orchestrionlaw15.ChipShapes", spec := "chipShapes", apart := false, narrowed := true }
def ChipShapesUptoSaid : Prop := chipShapesUptoRow.holds Try.pinned (OpenSpec.upto chipShapesSpec)

/-- 'orchestrionlaw15.ChipBounds', WHERE WHAT IT READS IS OF BULK AT MOST 1048576: true; the input reads as it did. -/
def chipBoundsUptoRow : OpenClaim := { program := "ytfpgidflaaefeaa", sum := "5795784d61c8966459679298b34b247382d48bdcaf2b6585e5c9e413e2497750", func := "orchestrion/orchestrionlaw15.ChipBounds", spec := "chipBounds", apart := false, narrowed := true }
def ChipBoundsUptoSaid : Prop := chipBoundsUptoRow.holds Try.pinned (OpenSpec.upto chipBoundsSpec)

/-- 'orchestrionlaw15.ChipNoise', WHERE WHAT IT READS IS OF BULK AT MOST 1048576: true; the input reads as it did. -/
def chipNoiseUptoRow : OpenClaim := { program := "ytfpgidflaaefeaa", sum := "5795784d61c8966459679298b34b247382d48bdcaf2b6585e5c9e413e2497750", func := "orchestrion/orchestrionlaw15.ChipNoise", spec := "chipNoise", apart := false, narrowed := true }
def ChipNoiseUptoSaid : Prop := chipNoiseUptoRow.holds Try.pinned (OpenSpec.upto chipNoiseSpec)

/-- 'orchestrionlaw15.ChipState', WHERE WHAT IT READS IS OF BULK AT MOST 1048576: true; the input reads as it did. -/
def chipStateUptoRow : OpenClaim := { program := "ytfpgidflaaefeaa", sum := "5795784d61c8966459679298b34b247382d48bdcaf2b6585e5c9e413e2497750", func := "orchestrion/orchestrionlaw15.ChipState", spec := "chipState", apart := false, narrowed := true }
def ChipStateUptoSaid : Prop := chipStateUptoRow.holds Try.pinned (OpenSpec.upto chipStateSpec)

/-- 'orchestrionlaw15.ChipSound', WHERE WHAT IT READS IS OF BULK AT MOST 1048576: true; the input reads as it did. -/
def chipSoundUptoRow : OpenClaim := { program := "ytfpgidflaaefeaa", sum := "5795784d61c8966459679298b34b247382d48bdcaf2b6585e5c9e413e2497750", func := "orchestrion/orchestrionlaw15.ChipSound", spec := "chipSound", apart := false, narrowed := true }
def ChipSoundUptoSaid : Prop := chipSoundUptoRow.holds Try.pinned (OpenSpec.upto chipSoundSpec)

/-- 'orchestrionlaw15.ChipSquare', WHERE WHAT IT READS IS OF BULK AT MOST 1048576: true; the input reads as it did. -/
def chipSquareUptoRow : OpenClaim := { program := "ytfpgidflaaefeaa", sum := "5795784d61c8966459679298b34b247382d48bdcaf2b6585e5c9e413e2497750", func := "orchestrion/orchestrionlaw15.ChipSquare", spec := "chipSquare", apart := false, narrowed := true }
def ChipSquareUptoSaid : Prop := chipSquareUptoRow.holds Try.pinned (OpenSpec.upto chipSquareSpec)

/-- 'orchestrionlaw15.ChipPlay', WHERE WHAT IT READS IS OF BULK AT MOST 1048576: true; the input reads as it did. -/
def chipPlayUptoRow : OpenClaim := { program := "ytfpgidflaaefeaa", sum := "5795784d61c8966459679298b34b247382d48bdcaf2b6585e5c9e413e2497750", func := "orchestrion/orchestrionlaw15.ChipPlay", spec := "chipPlay", apart := false, narrowed := true }
def ChipPlayUptoSaid : Prop := chipPlayUptoRow.holds Try.pinned (OpenSpec.upto chipPlaySpec)

/-- 'orchestrionlaw15.ChipRun', WHERE WHAT IT READS IS OF BULK AT MOST 1048576: true; the input reads as it did. -/
def chipRunUptoRow : OpenClaim := { program := "ytfpgidflaaefeaa", sum := "5795784d61c8966459679298b34b247382d48bdcaf2b6585e5c9e413e2497750", func := "orchestrion/orchestrionlaw15.ChipRun", spec := "chipRun", apart := false, narrowed := true }
def ChipRunUptoSaid : Prop := chipRunUptoRow.holds Try.pinned (OpenSpec.upto chipRunSpec)

/-- 'orchestrionlaw15.ChipDivided', WHERE WHAT IT READS IS OF BULK AT MOST 1048576: true; the input reads as it did. -/
def chipDividedUptoRow : OpenClaim := { program := "ytfpgidflaaefeaa", sum := "5795784d61c8966459679298b34b247382d48bdcaf2b6585e5c9e413e2497750", func := "orchestrion/orchestrionlaw15.ChipDivided", spec := "chipDivided", apart := false, narrowed := true }
def ChipDividedUptoSaid : Prop := chipDividedUptoRow.holds Try.pinned (OpenSpec.upto chipDividedSpec)

end Rows
end Go.Proofs.Ytfpgidflaaefeaa

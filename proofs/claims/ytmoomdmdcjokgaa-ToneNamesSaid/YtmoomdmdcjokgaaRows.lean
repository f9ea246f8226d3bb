/-
  No cell of these rows narrows 'for every input' (looked for: loops, veiled, ifaces, maps, wideKeys, modest, calm, conditions, laid).
  DERIVED. THE GIVEN ROWS OF THIS SEAT. 5 by the template 'for every input the law returns true; each argument reads behind the call as it read before'; 0 by the template 'total and deterministic' (their statements: YtmoomdmdcjokgaaTotals.lean).
  GIVEN WITH THE SEED: the statements are not yours to turn. If you find one false, say at which input.
  Laid BY PROGRAM, IN A SANDBOX (cutbox-rows.mjs): the forced cells as the released guide's own fill.sh prints them over the translation 6b489af07a7238d4… (all of the seat's roots in one cut). By AI agents, Wed Nov 11 2026. No macro, syntax, notation, axiom, sorry.
-/
import Derived.Test.YtmoomdmdcjokgaaChecked
import GoSem.Claim
import GoSem.ClaimJoined
import GoSem.ClaimMapViews
import Derived.JoinedTies
import Derived.KernelRfl
namespace Go.Proofs.Ytmoomdmdcjokgaa
/- THE CELL 'sum', in the pinned program and in every row, IS THE sha256 OF THE DUMP (.gsa) THAT YtmoomdmdcjokgaaProg.lean LOADS. Nothing in Lean hashes anything: it is a label: what it is worth is what the hold of that sum in a sandbox is worth. -/
noncomputable def Try.pinned : Pinned := { name := "ytmoomdmdcjokgaa", sum := "6b489af07a7238d4c578d78270bb7f78f49b6e943591af6290b49e471027d547", checked := Try.checked }
namespace Rows
def none {H : Type} : Left H := { results := [], args := [] }

/-- 'orchestrionlaw01.ToneOctaves': WHATEVER THE INPUT: true; the input reads as it did. -/
def toneOctavesSpec : ChangeSpec := { name := "toneOctaves", fn := fun _ => fun
  | [d1, d2] => { results := [.lit (.bool true)], args := [d1, d2] }
  | _ => none }
def toneOctavesRow : OpenClaim := { program := "ytmoomdmdcjokgaa", sum := "6b489af07a7238d4c578d78270bb7f78f49b6e943591af6290b49e471027d547", func := "orchestrion/orchestrionlaw01.ToneOctaves", spec := "toneOctaves", apart := false }
def ToneOctavesSaid : Prop := toneOctavesRow.holds Try.pinned (OpenSpec.ofChange toneOctavesSpec)

/-- ITS FALSE NEIGHBOUR: 'it returns false'. Refute it at one input. -/
def toneOctavesWrong : ChangeSpec := { name := "toneOctaves", fn := fun _ => fun
  | [d1, d2] => { results := [.lit (.bool false)], args := [d1, d2] }
  | _ => none }
def ToneOctavesWrongFalsely : Prop := toneOctavesRow.holds Try.pinned (OpenSpec.ofChange toneOctavesWrong)

/-- 'orchestrionlaw01.ToneRises': WHATEVER THE INPUT: true; the input reads as it did. -/
def toneRisesSpec : ChangeSpec := { name := "toneRises", fn := fun _ => fun
  | [d1, d2, d3] => { results := [.lit (.bool true)], args := [d1, d2, d3] }
  | _ => none }
def toneRisesRow : OpenClaim := { program := "ytmoomdmdcjokgaa", sum := "6b489af07a7238d4c578d78270bb7f78f49b6e943591af6290b49e471027d547", func := "orchestrion/orchestrionlaw01.ToneRises", spec := "toneRises", apart := false }
def ToneRisesSaid : Prop := toneRisesRow.holds Try.pinned (OpenSpec.ofChange toneRisesSpec)

/-- ITS FALSE NEIGHBOUR: 'it returns false'. Refute it at one input. -/
def toneRisesWrong : ChangeSpec := { name := "toneRises", fn := fun _ => fun
  | [d1, d2, d3] => { results := [.lit (.bool false)], args := [d1, d2, d3] }
  | _ => none }
def ToneRisesWrongFalsely : Prop := toneRisesRow.holds Try.pinned (OpenSpec.ofChange toneRisesWrong)

/-- 'orchestrionlaw01.ToneWaves': WHATEVER THE INPUT: true; the input reads as it did. -/
def toneWavesSpec : ChangeSpec := { name := "toneWaves", fn := fun _ => fun
  | [d1, d2, d3] => { results := [.lit (.bool true)], args := [d1, d2, d3] }
  | _ => none }
def toneWavesRow : OpenClaim := { program := "ytmoomdmdcjokgaa", sum := "6b489af07a7238d4c578d78270bb7f78f49b6e943591af6290b49e471027d547", func := "orchestrion/orchestrionlaw01.ToneWaves", spec := "toneWaves", apart := false }
def ToneWavesSaid : Prop := toneWavesRow.holds Try.pinned (OpenSpec.ofChange toneWavesSpec)

/-- ITS FALSE NEIGHBOUR: 'it returns false'. Refute it at one input. -/
def toneWavesWrong : ChangeSpec := { name := "toneWaves", fn := fun _ => fun
  | [d1, d2, d3] => { results := [.lit (.bool false)], args := [d1, d2, d3] }
  | _ => none }
def ToneWavesWrongFalsely : Prop := toneWavesRow.holds Try.pinned (OpenSpec.ofChange toneWavesWrong)

/-- 'orchestrionlaw01.ToneNames': WHATEVER THE INPUT: true; the input reads as it did. -/
def toneNamesSpec : ChangeSpec := { name := "toneNames", fn := fun _ => fun
  | [d1, d2] => { results := [.lit (.bool true)], args := [d1, d2] }
  | _ => none }
def toneNamesRow : OpenClaim := { program := "ytmoomdmdcjokgaa", sum := "6b489af07a7238d4c578d78270bb7f78f49b6e943591af6290b49e471027d547", func := "orchestrion/orchestrionlaw01.ToneNames", spec := "toneNames", apart := false }
def ToneNamesSaid : Prop := toneNamesRow.holds Try.pinned (OpenSpec.ofChange toneNamesSpec)

/-- ITS FALSE NEIGHBOUR: 'it returns false'. Refute it at one input. -/
def toneNamesWrong : ChangeSpec := { name := "toneNames", fn := fun _ => fun
  | [d1, d2] => { results := [.lit (.bool false)], args := [d1, d2] }
  | _ => none }
def ToneNamesWrongFalsely : Prop := toneNamesRow.holds Try.pinned (OpenSpec.ofChange toneNamesWrong)

/-- 'orchestrionlaw01.ToneTells': WHATEVER THE INPUT: true; the input reads as it did. -/
def toneTellsSpec : ChangeSpec := { name := "toneTells", fn := fun _ => fun
  | [d] => { results := [.lit (.bool true)], args := [d] }
  | _ => none }
def toneTellsRow : OpenClaim := { program := "ytmoomdmdcjokgaa", sum := "6b489af07a7238d4c578d78270bb7f78f49b6e943591af6290b49e471027d547", func := "orchestrion/orchestrionlaw01.ToneTells", spec := "toneTells", apart := false }
def ToneTellsSaid : Prop := toneTellsRow.holds Try.pinned (OpenSpec.ofChange toneTellsSpec)

/-- ITS FALSE NEIGHBOUR: 'it returns false'. Refute it at one input. -/
def toneTellsWrong : ChangeSpec := { name := "toneTells", fn := fun _ => fun
  | [d] => { results := [.lit (.bool false)], args := [d] }
  | _ => none }
def ToneTellsWrongFalsely : Prop := toneTellsRow.holds Try.pinned (OpenSpec.ofChange toneTellsWrong)

/- THE SECOND FORM. 'bulk': how many values and letters a reading holds, each counted each time it is reached (what is shared counts as often as it is met; a slice's spare places count too). A statement '..UptoSaid' is the law's where the arguments, and the package variables that the reading takes, are together of bulk at most 1048576: NARROWER than '..Said'. Prove '..Said' where nothing that the law and all that it calls make is longer than what came in: it says more and counts as full. Else prove '..UptoSaid'. A law counts once. -/
mutual
def uptoBulk {H : Type} : DataW H → Nat
  | .lit (.string bytes) => bytes.length + 1
  | .lit _ => 1
  | .nil => 1
  | .ptr d => uptoBulk d + 1
  | .slice elems spare => uptoBulkAll elems + uptoBulkAll spare + 1
  | .agg parts => uptoBulkAll parts + 1
  | .iface _ d => uptoBulk d + 1
  | .map entries => uptoBulkEntries entries + 1
  | .held _ => 1
def uptoBulkAll {H : Type} : List (DataW H) → Nat
  | [] => 0
  | d :: r => uptoBulk d + uptoBulkAll r
def uptoBulkEntries {H : Type} : List (Lit × DataW H) → Nat
  | [] => 0
  | x :: r => uptoBulkEntry x + uptoBulkEntries r
def uptoBulkEntry {H : Type} : Lit × DataW H → Nat
  | (.string bytes, d) => bytes.length + uptoBulk d + 1
  | (_, d) => uptoBulk d + 1
 end
def uptoSmall : (H : Type) → List (DataW H) → Bool := fun _ ds => decide (uptoBulkAll ds ≤ 1048576)
def OpenSpec.upto (s : _root_.Go.ChangeSpec) : _root_.Go.OpenSpec := { _root_.Go.OpenSpec.ofChange s with cond := some uptoSmall }

/-- 'orchestrionlaw01.ToneOctaves', WHERE WHAT IT READS IS OF BULK AT MOST 1048576: true; the input reads as it did. -/
def toneOctavesUptoRow : OpenClaim := { program := "ytmoomdmdcjokgaa", sum := "6b489af07a7238d4c578d78270bb7f78f49b6e943591af6290b49e471027d547", func := "orchestrion/orchestrionlaw01.ToneOctaves", spec := "toneOctaves", apart := false, narrowed := true }
def ToneOctavesUptoSaid : Prop := toneOctavesUptoRow.holds Try.pinned (OpenSpec.upto toneOctavesSpec)

/-- 'orchestrionlaw01.ToneRises', WHERE WHAT IT READS IS OF BULK AT MOST 1048576: true; the input reads as it did. -/
def toneRisesUptoRow : OpenClaim := { program := "ytmoomdmdcjokgaa", sum := "6b489af07a7238d4c578d78270bb7f78f49b6e943591af6290b49e471027d547", func := "orchestrion/orchestrionlaw01.ToneRises", spec := "toneRises", apart := false, narrowed := true }
def ToneRisesUptoSaid : Prop := toneRisesUptoRow.holds Try.pinned (OpenSpec.upto toneRisesSpec)

/-- 'orchestrionlaw01.ToneWaves', WHERE WHAT IT READS IS OF BULK AT MOST 1048576: true; the input reads as it did. -/
def toneWavesUptoRow : OpenClaim := { program := "ytmoomdmdcjokgaa", sum := "6b489af07a7238d4c578d78270bb7f78f49b6e943591af6290b49e471027d547", func := "orchestrion/orchestrionlaw01.ToneWaves", spec := "toneWaves", apart := false, narrowed := true }
def ToneWavesUptoSaid : Prop := toneWavesUptoRow.holds Try.pinned (OpenSpec.upto toneWavesSpec)

/-- 'orchestrionlaw01.ToneNames', WHERE WHAT IT READS IS OF BULK AT MOST 1048576: true; the input reads as it did. -/
def toneNamesUptoRow : OpenClaim := { program := "ytmoomdmdcjokgaa", sum := "6b489af07a7238d4c578d78270bb7f78f49b6e943591af6290b49e471027d547", func := "orchestrion/orchestrionlaw01.ToneNames", spec := "toneNames", apart := false, narrowed := true }
def ToneNamesUptoSaid : Prop := toneNamesUptoRow.holds Try.pinned (OpenSpec.upto toneNamesSpec)

/-- 'orchestrionlaw01.ToneTells', WHERE WHAT IT READS IS OF BULK AT MOST 1048576: true; the input reads as it did. -/
def toneTellsUptoRow : OpenClaim := { program := "ytmoomdmdcjokgaa", sum := "6b489af07a7238d4c578d78270bb7f78f49b6e943591af6290b49e471027d547", func := "orchestrion/orchestrionlaw01.ToneTells", spec := "toneTells", apart := false, narrowed := true }
def ToneTellsUptoSaid : Prop := toneTellsUptoRow.holds Try.pinned (OpenSpec.upto toneTellsSpec)

end Rows
end Go.Proofs.Ytmoomdmdcjokgaa

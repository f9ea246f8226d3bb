/-
  No cell of these rows narrows 'for every input' (looked for: loops, veiled, ifaces, maps, wideKeys, modest, calm, conditions, laid).
  DERIVED. THE GIVEN ROWS OF THIS SEAT. 12 by the template 'for every input the law returns true; each argument reads behind the call as it read before'; 0 by the template 'total and deterministic' (their statements: YtnmoiolddfboiaaTotals.lean).
  GIVEN WITH THE SEED: the statements are not yours to turn. If you find one false, say at which input.
  Laid BY PROGRAM, IN A SANDBOX (cutbox-rows.mjs): the forced cells as the released guide's own fill.sh prints them over the translation abe5f23ceb460df1… (all of the seat's roots in one cut). By AI agents, Wed Nov 11 2026. No macro, syntax, notation, axiom, sorry.
-/
import Derived.Test.YtnmoiolddfboiaaChecked
import GoSem.Claim
import GoSem.ClaimJoined
import GoSem.ClaimMapViews
import Derived.JoinedTies
import Derived.KernelRfl
namespace Go.Proofs.Ytnmoiolddfboiaa
/- THE CELL 'sum', in the pinned program and in every row, IS THE sha256 OF THE DUMP (.gsa) THAT YtnmoiolddfboiaaProg.lean LOADS. Nothing in Lean hashes anything: it is a label: what it is worth is what the hold of that sum in a sandbox is worth. -/
noncomputable def Try.pinned : Pinned := { name := "ytnmoiolddfboiaa", sum := "abe5f23ceb460df176d357f2c24d70f8c14a69705a52c7b39eb06af9bef7b555", checked := Try.checked }
namespace Rows
def none {H : Type} : Left H := { results := [], args := [] }

/-- 'orchestrionlaw02.SampleWalks': WHATEVER THE INPUT: true; the input reads as it did. -/
def sampleWalksSpec : ChangeSpec := { name := "sampleWalks", fn := fun _ => fun
  | [d1, d2] => { results := [.lit (.bool true)], args := [d1, d2] }
  | _ => none }
def sampleWalksRow : OpenClaim := { program := "ytnmoiolddfboiaa", sum := "abe5f23ceb460df176d357f2c24d70f8c14a69705a52c7b39eb06af9bef7b555", func := "orchestrion/orchestrionlaw02.SampleWalks", spec := "sampleWalks", unfollowed := true, recurses := true, apart := false }
def SampleWalksSaid : Prop := sampleWalksRow.holds Try.pinned (OpenSpec.ofChange sampleWalksSpec)

/-- ITS FALSE NEIGHBOUR: 'it returns false'. Refute it at one input. -/
def sampleWalksWrong : ChangeSpec := { name := "sampleWalks", fn := fun _ => fun
  | [d1, d2] => { results := [.lit (.bool false)], args := [d1, d2] }
  | _ => none }
def SampleWalksWrongFalsely : Prop := sampleWalksRow.holds Try.pinned (OpenSpec.ofChange sampleWalksWrong)

/-- 'orchestrionlaw02.SampleSplits': WHATEVER THE INPUT: true; the input reads as it did. -/
def sampleSplitsSpec : ChangeSpec := { name := "sampleSplits", fn := fun _ => fun
  | [d1, d2, d3] => { results := [.lit (.bool true)], args := [d1, d2, d3] }
  | _ => none }
def sampleSplitsRow : OpenClaim := { program := "ytnmoiolddfboiaa", sum := "abe5f23ceb460df176d357f2c24d70f8c14a69705a52c7b39eb06af9bef7b555", func := "orchestrion/orchestrionlaw02.SampleSplits", spec := "sampleSplits", unfollowed := true, recurses := true, apart := false }
def SampleSplitsSaid : Prop := sampleSplitsRow.holds Try.pinned (OpenSpec.ofChange sampleSplitsSpec)

/-- ITS FALSE NEIGHBOUR: 'it returns false'. Refute it at one input. -/
def sampleSplitsWrong : ChangeSpec := { name := "sampleSplits", fn := fun _ => fun
  | [d1, d2, d3] => { results := [.lit (.bool false)], args := [d1, d2, d3] }
  | _ => none }
def SampleSplitsWrongFalsely : Prop := sampleSplitsRow.holds Try.pinned (OpenSpec.ofChange sampleSplitsWrong)

/-- 'orchestrionlaw02.SampleTurns': WHATEVER THE INPUT: true; the input reads as it did. -/
def sampleTurnsSpec : ChangeSpec := { name := "sampleTurns", fn := fun _ => fun
  | [d1, d2, d3] => { results := [.lit (.bool true)], args := [d1, d2, d3] }
  | _ => none }
def sampleTurnsRow : OpenClaim := { program := "ytnmoiolddfboiaa", sum := "abe5f23ceb460df176d357f2c24d70f8c14a69705a52c7b39eb06af9bef7b555", func := "orchestrion/orchestrionlaw02.SampleTurns", spec := "sampleTurns", unfollowed := true, recurses := true, apart := false }
def SampleTurnsSaid : Prop := sampleTurnsRow.holds Try.pinned (OpenSpec.ofChange sampleTurnsSpec)

/-- ITS FALSE NEIGHBOUR: 'it returns false'. Refute it at one input. -/
def sampleTurnsWrong : ChangeSpec := { name := "sampleTurns", fn := fun _ => fun
  | [d1, d2, d3] => { results := [.lit (.bool false)], args := [d1, d2, d3] }
  | _ => none }
def SampleTurnsWrongFalsely : Prop := sampleTurnsRow.holds Try.pinned (OpenSpec.ofChange sampleTurnsWrong)

/-- 'orchestrionlaw02.SampleUnrolls': WHATEVER THE INPUT: true; the input reads as it did. -/
def sampleUnrollsSpec : ChangeSpec := { name := "sampleUnrolls", fn := fun _ => fun
  | [d] => { results := [.lit (.bool true)], args := [d] }
  | _ => none }
def sampleUnrollsRow : OpenClaim := { program := "ytnmoiolddfboiaa", sum := "abe5f23ceb460df176d357f2c24d70f8c14a69705a52c7b39eb06af9bef7b555", func := "orchestrion/orchestrionlaw02.SampleUnrolls", spec := "sampleUnrolls", unfollowed := true, recurses := true, apart := false }
def SampleUnrollsSaid : Prop := sampleUnrollsRow.holds Try.pinned (OpenSpec.ofChange sampleUnrollsSpec)

/-- ITS FALSE NEIGHBOUR: 'it returns false'. Refute it at one input. -/
def sampleUnrollsWrong : ChangeSpec := { name := "sampleUnrolls", fn := fun _ => fun
  | [d] => { results := [.lit (.bool false)], args := [d] }
  | _ => none }
def SampleUnrollsWrongFalsely : Prop := sampleUnrollsRow.holds Try.pinned (OpenSpec.ofChange sampleUnrollsWrong)

/-- 'orchestrionlaw02.SampleTells': WHATEVER THE INPUT: true; the input reads as it did. -/
def sampleTellsSpec : ChangeSpec := { name := "sampleTells", fn := fun _ => fun
  | [d] => { results := [.lit (.bool true)], args := [d] }
  | _ => none }
def sampleTellsRow : OpenClaim := { program := "ytnmoiolddfboiaa", sum := "abe5f23ceb460df176d357f2c24d70f8c14a69705a52c7b39eb06af9bef7b555", func := "orchestrion/orchestrionlaw02.SampleTells", spec := "sampleTells", unfollowed := true, recurses := true, apart := false }
def SampleTellsSaid : Prop := sampleTellsRow.holds Try.pinned (OpenSpec.ofChange sampleTellsSpec)

/-- ITS FALSE NEIGHBOUR: 'it returns false'. Refute it at one input. -/
def sampleTellsWrong : ChangeSpec := { name := "sampleTells", fn := fun _ => fun
  | [d] => { results := [.lit (.bool false)], args := [d] }
  | _ => none }
def SampleTellsWrongFalsely : Prop := sampleTellsRow.holds Try.pinned (OpenSpec.ofChange sampleTellsWrong)

/-- 'orchestrionlaw02.SampleBacks': WHATEVER THE INPUT: true; the input reads as it did. -/
def sampleBacksSpec : ChangeSpec := { name := "sampleBacks", fn := fun _ => fun
  | [d] => { results := [.lit (.bool true)], args := [d] }
  | _ => none }
def sampleBacksRow : OpenClaim := { program := "ytnmoiolddfboiaa", sum := "abe5f23ceb460df176d357f2c24d70f8c14a69705a52c7b39eb06af9bef7b555", func := "orchestrion/orchestrionlaw02.SampleBacks", spec := "sampleBacks", unfollowed := true, recurses := true, apart := false }
def SampleBacksSaid : Prop := sampleBacksRow.holds Try.pinned (OpenSpec.ofChange sampleBacksSpec)

/-- ITS FALSE NEIGHBOUR: 'it returns false'. Refute it at one input. -/
def sampleBacksWrong : ChangeSpec := { name := "sampleBacks", fn := fun _ => fun
  | [d] => { results := [.lit (.bool false)], args := [d] }
  | _ => none }
def SampleBacksWrongFalsely : Prop := sampleBacksRow.holds Try.pinned (OpenSpec.ofChange sampleBacksWrong)

/-- 'orchestrionlaw02.SampleWorks': WHATEVER THE INPUT: true; the input reads as it did. -/
def sampleWorksSpec : ChangeSpec := { name := "sampleWorks", fn := fun _ => fun
  | [d] => { results := [.lit (.bool true)], args := [d] }
  | _ => none }
def sampleWorksRow : OpenClaim := { program := "ytnmoiolddfboiaa", sum := "abe5f23ceb460df176d357f2c24d70f8c14a69705a52c7b39eb06af9bef7b555", func := "orchestrion/orchestrionlaw02.SampleWorks", spec := "sampleWorks", unfollowed := true, recurses := true, apart := false }
def SampleWorksSaid : Prop := sampleWorksRow.holds Try.pinned (OpenSpec.ofChange sampleWorksSpec)

/-- ITS FALSE NEIGHBOUR: 'it returns false'. Refute it at one input. -/
def sampleWorksWrong : ChangeSpec := { name := "sampleWorks", fn := fun _ => fun
  | [d] => { results := [.lit (.bool false)], args := [d] }
  | _ => none }
def SampleWorksWrongFalsely : Prop := sampleWorksRow.holds Try.pinned (OpenSpec.ofChange sampleWorksWrong)

/-- 'orchestrionlaw13.InterpAt': WHATEVER THE INPUT: true; the input reads as it did. -/
def interpAtSpec : ChangeSpec := { name := "interpAt", fn := fun _ => fun
  | [d] => { results := [.lit (.bool true)], args := [d] }
  | _ => none }
def interpAtRow : OpenClaim := { program := "ytnmoiolddfboiaa", sum := "abe5f23ceb460df176d357f2c24d70f8c14a69705a52c7b39eb06af9bef7b555", func := "orchestrion/orchestrionlaw13.InterpAt", spec := "interpAt", unfollowed := true, recurses := true, apart := false }
def InterpAtSaid : Prop := interpAtRow.holds Try.pinned (OpenSpec.ofChange interpAtSpec)

/-- ITS FALSE NEIGHBOUR: 'it returns false'. Refute it at one input. -/
def interpAtWrong : ChangeSpec := { name := "interpAt", fn := fun _ => fun
  | [d] => { results := [.lit (.bool false)], args := [d] }
  | _ => none }
def InterpAtWrongFalsely : Prop := interpAtRow.holds Try.pinned (OpenSpec.ofChange interpAtWrong)

/-- 'orchestrionlaw13.InterpResample': WHATEVER THE INPUT: true; the input reads as it did. -/
def interpResampleSpec : ChangeSpec := { name := "interpResample", fn := fun _ => fun
  | [d] => { results := [.lit (.bool true)], args := [d] }
  | _ => none }
def interpResampleRow : OpenClaim := { program := "ytnmoiolddfboiaa", sum := "abe5f23ceb460df176d357f2c24d70f8c14a69705a52c7b39eb06af9bef7b555", func := "orchestrion/orchestrionlaw13.InterpResample", spec := "interpResample", unfollowed := true, recurses := true, apart := false }
def InterpResampleSaid : Prop := interpResampleRow.holds Try.pinned (OpenSpec.ofChange interpResampleSpec)

/-- ITS FALSE NEIGHBOUR: 'it returns false'. Refute it at one input. -/
def interpResampleWrong : ChangeSpec := { name := "interpResample", fn := fun _ => fun
  | [d] => { results := [.lit (.bool false)], args := [d] }
  | _ => none }
def InterpResampleWrongFalsely : Prop := interpResampleRow.holds Try.pinned (OpenSpec.ofChange interpResampleWrong)

/-- 'orchestrionlaw25.TuneResample': WHATEVER THE INPUT: true; the input reads as it did. -/
def tuneResampleSpec : ChangeSpec := { name := "tuneResample", fn := fun _ => fun
  | [d] => { results := [.lit (.bool true)], args := [d] }
  | _ => none }
def tuneResampleRow : OpenClaim := { program := "ytnmoiolddfboiaa", sum := "abe5f23ceb460df176d357f2c24d70f8c14a69705a52c7b39eb06af9bef7b555", func := "orchestrion/orchestrionlaw25.TuneResample", spec := "tuneResample", unfollowed := true, recurses := true, apart := false }
def TuneResampleSaid : Prop := tuneResampleRow.holds Try.pinned (OpenSpec.ofChange tuneResampleSpec)

/-- ITS FALSE NEIGHBOUR: 'it returns false'. Refute it at one input. -/
def tuneResampleWrong : ChangeSpec := { name := "tuneResample", fn := fun _ => fun
  | [d] => { results := [.lit (.bool false)], args := [d] }
  | _ => none }
def TuneResampleWrongFalsely : Prop := tuneResampleRow.holds Try.pinned (OpenSpec.ofChange tuneResampleWrong)

/-- 'orchestrionlaw25.TuneSame': WHATEVER THE INPUT: true; the input reads as it did. -/
def tuneSameSpec : ChangeSpec := { name := "tuneSame", fn := fun _ => fun
  | [d1, d2, d3] => { results := [.lit (.bool true)], args := [d1, d2, d3] }
  | _ => none }
def tuneSameRow : OpenClaim := { program := "ytnmoiolddfboiaa", sum := "abe5f23ceb460df176d357f2c24d70f8c14a69705a52c7b39eb06af9bef7b555", func := "orchestrion/orchestrionlaw25.TuneSame", spec := "tuneSame", unfollowed := true, recurses := true, apart := false }
def TuneSameSaid : Prop := tuneSameRow.holds Try.pinned (OpenSpec.ofChange tuneSameSpec)

/-- ITS FALSE NEIGHBOUR: 'it returns false'. Refute it at one input. -/
def tuneSameWrong : ChangeSpec := { name := "tuneSame", fn := fun _ => fun
  | [d1, d2, d3] => { results := [.lit (.bool false)], args := [d1, d2, d3] }
  | _ => none }
def TuneSameWrongFalsely : Prop := tuneSameRow.holds Try.pinned (OpenSpec.ofChange tuneSameWrong)

/-- 'orchestrionlaw25.TuneValid': WHATEVER THE INPUT: true; the input reads as it did. -/
def tuneValidSpec : ChangeSpec := { name := "tuneValid", fn := fun _ => fun
  | [d1, d2] => { results := [.lit (.bool true)], args := [d1, d2] }
  | _ => none }
def tuneValidRow : OpenClaim := { program := "ytnmoiolddfboiaa", sum := "abe5f23ceb460df176d357f2c24d70f8c14a69705a52c7b39eb06af9bef7b555", func := "orchestrion/orchestrionlaw25.TuneValid", spec := "tuneValid", unfollowed := true, recurses := true, apart := false }
def TuneValidSaid : Prop := tuneValidRow.holds Try.pinned (OpenSpec.ofChange tuneValidSpec)

/-- ITS FALSE NEIGHBOUR: 'it returns false'. Refute it at one input. -/
def tuneValidWrong : ChangeSpec := { name := "tuneValid", fn := fun _ => fun
  | [d1, d2] => { results := [.lit (.bool false)], args := [d1, d2] }
  | _ => none }
def TuneValidWrongFalsely : Prop := tuneValidRow.holds Try.pinned (OpenSpec.ofChange tuneValidWrong)

/- THE SECOND FORM. 'bulk': how many values and letters a reading holds, each counted each time it is reached (what is shared counts as often as it is met; a slice's spare places count too). A statement '..UptoSaid' is the law's where the arguments, and the package variables that the reading takes, are together of bulk at most 1048576: NARROWER than '..Said'. Prove '..Said' where nothing that the law and all that it calls make is longer than what came in: it says more and counts as full. Else prove '..UptoSaid'. A law counts once. -/
mutual
def uptoBulk {H : Type} : DataW H → Nat
  | .lit (.string bytes) => bytes.length + 1
  | .lit _ => 1
  | .nil => 1
  | .ptr d => uptoBulk d + 1
  | .slice elems spare => uptoBulkAll elems + uptoBulkAll spare + 1
  | .agg parts => uptoBulkAll parts + 1
  | .iface _ d => uptoBulk d + 1
  | .map entries => uptoBulkEntries entries + 1
  | .held _ => 1
def uptoBulkAll {H : Type} : List (DataW H) → Nat
  | [] => 0
  | d :: r => uptoBulk d + uptoBulkAll r
def uptoBulkEntries {H : Type} : List (Lit × DataW H) → Nat
  | [] => 0
  | x :: r => uptoBulkEntry x + uptoBulkEntries r
def uptoBulkEntry {H : Type} : Lit × DataW H → Nat
  | (.string bytes, d) => bytes.length + uptoBulk d + 1
  | (_, d) => uptoBulk d + 1
 end
def uptoSmall : (H : Type) → List (DataW H) → Bool := fun _ ds => decide (uptoBulkAll ds ≤ 1048576)
def OpenSpec.upto (s : _root_.Go.ChangeSpec) : _root_.Go.OpenSpec := { _root_.Go.OpenSpec.ofChange s with cond := some uptoSmall }

/-- 'orchestrionlaw02.SampleWalks', WHERE WHAT IT READS IS OF BULK AT MOST 1048576: true; the input reads as it did. -/
def sampleWalksUptoRow : OpenClaim := { program := "ytnmoiolddfboiaa", sum := "abe5f23ceb460df176d357f2c24d70f8c14a69705a52c7b39eb06af9bef7b555", func := "orchestrion/orchestrionlaw02.SampleWalks", spec := "sampleWalks", unfollowed := true, recurses := true, apart := false, narrowed := true }
def SampleWalksUptoSaid : Prop := sampleWalksUptoRow.holds Try.pinned (OpenSpec.upto sampleWalksSpec)

/-- 'orchestrionlaw02.SampleSplits', WHERE WHAT IT READS IS OF BULK AT MOST 1048576: true; the input reads as it did. -/
def sampleSplitsUptoRow : OpenClaim := { program := "ytnmoiolddfboiaa", sum := "abe5f23ceb460df176d357f2c24d70f8c14a69705a52c7b39eb06af9bef7b555", func := "orchestrion/orchestrionlaw02.SampleSplits", spec := "sampleSplits", unfollowed := true, recurses := true, apart := false, narrowed := true }
def SampleSplitsUptoSaid : Prop := sampleSplitsUptoRow.holds Try.pinned (OpenSpec.upto sampleSplitsSpec)

/-- 'orchestrionlaw02.SampleTurns', WHERE WHAT IT READS IS OF BULK AT MOST 1048576: true; the input reads as it did. -/
def sampleTurnsUptoRow : OpenClaim := { program := "ytnmoiolddfboiaa", sum := "abe5f23ceb460df176d357f2c24d70f8c14a69705a52c7b39eb06af9bef7b555", func := "orchestrion/orchestrionlaw02.SampleTurns", spec := "sampleTurns", unfollowed := true, recurses := true, apart := false, narrowed := true }
def SampleTurnsUptoSaid : Prop := sampleTurnsUptoRow.holds Try.pinned (OpenSpec.upto sampleTurnsSpec)

/-- 'orchestrionlaw02.SampleUnrolls', WHERE WHAT IT READS IS OF BULK AT MOST 1048576: true; the input reads as it did. -/
def sampleUnrollsUptoRow : OpenClaim := { program := "ytnmoiolddfboiaa", sum := "abe5f23ceb460df176d357f2c24d70f8c14a69705a52c7b39eb06af9bef7b555", func := "orchestrion/orchestrionlaw02.SampleUnrolls", spec := "sampleUnrolls", unfollowed := true, recurses := true, apart := false, narrowed := true }
def SampleUnrollsUptoSaid : Prop := sampleUnrollsUptoRow.holds Try.pinned (OpenSpec.upto sampleUnrollsSpec)

/-- 'orchestrionlaw02.SampleTells', WHERE WHAT IT READS IS OF BULK AT MOST 1048576: true; the input reads as it did. -/
def sampleTellsUptoRow : OpenClaim := { program := "ytnmoiolddfboiaa", sum := "abe5f23ceb460df176d357f2c24d70f8c14a69705a52c7b39eb06af9bef7b555", func := "orchestrion/orchestrionlaw02.SampleTells", spec := "sampleTells", unfollowed := true, recurses := true, apart := false, narrowed := true }
def SampleTellsUptoSaid : Prop := sampleTellsUptoRow.holds Try.pinned (OpenSpec.upto sampleTellsSpec)

/-- 'orchestrionlaw02.SampleBacks', WHERE WHAT IT READS IS OF BULK AT MOST 1048576: true; the input reads as it did. -/
def sampleBacksUptoRow : OpenClaim := { program := "ytnmoiolddfboiaa", sum := "abe5f23ceb460df176d357f2c24d70f8c14a69705a52c7b39eb06af9bef7b555", func := "orchestrion/orchestrionlaw02.SampleBacks", spec := "sampleBacks", unfollowed := true, recurses := true, apart := false, narrowed := true }
def SampleBacksUptoSaid : Prop := sampleBacksUptoRow.holds Try.pinned (OpenSpec.upto sampleBacksSpec)

/-- 'orchestrionlaw02.SampleWorks', WHERE WHAT IT READS IS OF BULK AT MOST 1048576: true; the input reads as it did. -/
def sampleWorksUptoRow : OpenClaim := { program := "ytnmoiolddfboiaa", sum := "abe5f23ceb460df176d357f2c24d70f8c14a69705a52c7b39eb06af9bef7b555", func := "orchestrion/orchestrionlaw02.SampleWorks", spec := "sampleWorks", unfollowed := true, recurses := true, apart := false, narrowed := true }
def SampleWorksUptoSaid : Prop := sampleWorksUptoRow.holds Try.pinned (OpenSpec.upto sampleWorksSpec)

/-- 'orchestrionlaw13.InterpAt', WHERE WHAT IT READS IS OF BULK AT MOST 1048576: true; the input reads as it did. -/
def interpAtUptoRow : OpenClaim := { program := "ytnmoiolddfboiaa", sum := "abe5f23ceb460df176d357f2c24d70f8c14a69705a52c7b39eb06af9bef7b555", func := "orchestrion/orchestrionlaw13.InterpAt", spec := "interpAt", unfollowed := true, recurses := true, apart := false, narrowed := true }
def InterpAtUptoSaid : Prop := interpAtUptoRow.holds Try.pinned (OpenSpec.upto interpAtSpec)

/-- 'orchestrionlaw13.InterpResample', WHERE WHAT IT READS IS OF BULK AT MOST 1048576: true; the input reads as it did. -/
def interpResampleUptoRow : OpenClaim := { program := "ytnmoiolddfboiaa", sum := "abe5f23ceb460df176d357f2c24d70f8c14a69705a52c7b39eb06af9bef7b555", func := "orchestrion/orchestrionlaw13.InterpResample", spec := "interpResample", unfollowed := true, recurses := true, apart := false, narrowed := true }
def InterpResampleUptoSaid : Prop := interpResampleUptoRow.holds Try.pinned (OpenSpec.upto interpResampleSpec)

/-- 'orchestrionlaw25.TuneResample', WHERE WHAT IT READS IS OF BULK AT MOST 1048576: true; the input reads as it did. -/
def tuneResampleUptoRow : OpenClaim := { program := "ytnmoiolddfboiaa", sum := "abe5f23ceb460df176d357f2c24d70f8c14a69705a52c7b39eb06af9bef7b555", func := "orchestrion/orchestrionlaw25.TuneResample", spec := "tuneResample", unfollowed := true, recurses := true, apart := false, narrowed := true }
def TuneResampleUptoSaid : Prop := tuneResampleUptoRow.holds Try.pinned (OpenSpec.upto tuneResampleSpec)

/-- 'orchestrionlaw25.TuneSame', WHERE WHAT IT READS IS OF BULK AT MOST 1048576: true; the input reads as it did. -/
def tuneSameUptoRow : OpenClaim := { program := "ytnmoiolddfboiaa", sum := "abe5f23ceb460df176d357f2c24d70f8c14a69705a52c7b39eb06af9bef7b555", func := "orchestrion/orchestrionlaw25.TuneSame", spec := "tuneSame", unfollowed := true, recurses := true, apart := false, narrowed := true }
def TuneSameUptoSaid : Prop := tuneSameUptoRow.holds Try.pinned (OpenSpec.upto tuneSameSpec)

/-- 'orchestrionlaw25.TuneValid', WHERE WHAT IT READS IS OF BULK AT MOST 1048576: true; the input reads as it did. -/
def tuneValidUptoRow : OpenClaim := { program := "ytnmoiolddfboiaa", sum := "abe5f23ceb460df176d357f2c24d70f8c14a69705a52c7b39eb06af9bef7b555", func := "orchestrion/orchestrionlaw25.TuneValid", spec := "tuneValid", unfollowed := true, recurses := true, apart := false, narrowed := true }
def TuneValidUptoSaid : Prop := tuneValidUptoRow.holds Try.pinned (OpenSpec.upto tuneValidSpec)

end Rows
end Go.Proofs.Ytnmoiolddfboiaa

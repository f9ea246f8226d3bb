/- Written by a program of this session (wip/tools/xprint.py, over the functions of the kit's print): functions of the given program as Lean functions, each with its contract, or a law's row; no condition. -/
import Derived.Test.YtfpgidflaaefeaaProg
import Derived.Below
import Derived.Deep.Draws
import Derived.Deep.AppendLies
import Derived.Maps.AppendAt
import Derived.OwnWalk
import Derived.Laws.BytesArg
import Derived.Laws.MakeOwn
import Derived.Laws.OwnMore
import Derived.Deep.OwnRows
import Derived.Tactics
import Derived.Lib.ConvBytes
import Derived.Laws.Slices
import Derived.WalkKit
import Derived.KernelRfl
import Derived.RowKit3
import Derived.Deep.LoopGhost
import Derived.Deep.QuietTactic
import Derived.BigQuiet
import Derived.WideLaws
import Derived.Deep.DeepCutAuto
import Derived.Deep.CutBlock
import Derived.Deep.RegionHeld3
import Derived.Laws.Rows
import Derived.Lib.AppendStr
import Derived.ArgAppend
import Derived.Laws.IdiomCopy
import Derived.OrdersHeld
import Derived.Laws.BitsLemmas
import Derived.RowKit
import Derived.WalkLawsBesides
import Derived.WalkSpells
import Derived.Outline
import Derived.Laws.EntriesVeiled
import Derived.Lib.Hide
import Derived.Laws.Cover3
import Derived.Laws.Rows
import Derived.Test.YtfpgidflaaefeaaWWords
import Derived.Test.YtfpgidflaaefeaaWLast
import Derived.Test.YtfpgidflaaefeaaWTab
import Derived.Test.YtfpgidflaaefeaaWFour
import Derived.Test.YtfpgidflaaefeaaWQPut
import Derived.Test.YtfpgidflaaefeaaWApart
import Derived.Test.YtfpgidflaaefeaaWArr
import Derived.Test.YtfpgidflaaefeaaWZeros
import Derived.Test.YtfpgidflaaefeaaWFoot
import Derived.Test.YtfpgidflaaefeaaWKept
import Derived.Test.YtfpgidflaaefeaaWShare
import Derived.Test.YtfpgidflaaefeaaWN
import Derived.Test.YtfpgidflaaefeaaWFootNe
import Derived.Test.YtfpgidflaaefeaaWAt
import Derived.Test.YtfpgidflaaefeaaWEqStruct
import Derived.Test.YtfpgidflaaefeaaWRepsOne
import Derived.Test.YtfpgidflaaefeaaWInv
import Derived.Test.YtfpgidflaaefeaaWInvWords
import Derived.Test.YtfpgidflaaefeaaWGuard
import Derived.Test.YtfpgidflaaefeaaWNEv
import Derived.Test.YtfpgidflaaefeaaWMore
namespace Go.Proofs.Ytfpgidflaaefeaa.PG
open Go.RowKit Go.Proofs.YtfpgidflaaefeaaW.PrintWords Go.Proofs.YtfpgidflaaefeaaW.PrintLast Go.Proofs.YtfpgidflaaefeaaW.PrintMore
attribute [local go_sem] max2_int min2_int max_two min_two max_three min_three max_four min_four   -- for this text's walks alone
set_option linter.unusedVariables false
set_option linter.unusedSimpArgs false



def errW : Option Int → Value
  | none => .nilIface
  | some c => .iface 0 (.int .i64 c)
theorem errW_none : errW none = .nilIface := rfl
theorem errW_some (c : Int) : errW (some c) = .iface 0 (.int .i64 c) := rfl

theorem info3 : (Try.prog.info? 3).map (fun i => (i.zero, i.size, i.bytes)) = some (some (.int .i64 0), 1, 8) := by kernel_rfl
-- the values' own types

theorem xu8_w (x : Int) : IntKind.u8.wrap x = x % 256 := by simp [IntKind.wrap, IntKind.bits, IntKind.signed]
end Go.Proofs.Ytfpgidflaaefeaa.PG

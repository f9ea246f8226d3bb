/- Written by a program of this session (wip/tools/xprint.py, over the functions of the kit's print): functions of the given program as Lean functions, each with its contract, or a law's row; no condition. -/
import Derived.Test.YtkmcegpajfnndaaProg
import Derived.Below
import Derived.Deep.Draws
import Derived.Deep.AppendLies
import Derived.Maps.AppendAt
import Derived.OwnWalk
import Derived.Laws.BytesArg
import Derived.Laws.MakeOwn
import Derived.Laws.OwnMore
import Derived.Deep.OwnRows
import Derived.Tactics
import Derived.Lib.ConvBytes
import Derived.Laws.Slices
import Derived.WalkKit
import Derived.KernelRfl
import Derived.RowKit3
import Derived.Deep.LoopGhost
import Derived.Deep.QuietTactic
import Derived.BigQuiet
import Derived.WideLaws
import Derived.Deep.DeepCutAuto
import Derived.Deep.CutBlock
import Derived.Deep.RegionHeld3
import Derived.Laws.Rows
import Derived.Lib.AppendStr
import Derived.ArgAppend
import Derived.Laws.IdiomCopy
import Derived.OrdersHeld
import Derived.Laws.BitsLemmas
import Derived.RowKit
import Derived.WalkLawsBesides
import Derived.WalkSpells
import Derived.Outline
import Derived.Laws.EntriesVeiled
import Derived.Lib.Hide
import Derived.Laws.Cover3
import Derived.Test.YtkmcegpajfnndaaWWords
import Derived.Test.YtkmcegpajfnndaaWLast
import Derived.Test.YtkmcegpajfnndaaWTab
import Derived.Test.YtkmcegpajfnndaaWFour
import Derived.Test.YtkmcegpajfnndaaWQPut
import Derived.Test.YtkmcegpajfnndaaWApart
import Derived.Test.YtkmcegpajfnndaaWArr
import Derived.Test.YtkmcegpajfnndaaWZeros
import Derived.Test.YtkmcegpajfnndaaWFoot
import Derived.Test.YtkmcegpajfnndaaWKept
import Derived.Test.YtkmcegpajfnndaaWShare
import Derived.Test.YtkmcegpajfnndaaWN
import Derived.Test.YtkmcegpajfnndaaWFootNe
import Derived.Test.YtkmcegpajfnndaaWAt
import Derived.Test.YtkmcegpajfnndaaWEqStruct
import Derived.Test.YtkmcegpajfnndaaWRepsOne
import Derived.Test.YtkmcegpajfnndaaWInv
import Derived.Test.YtkmcegpajfnndaaWInvWords
import Derived.Test.YtkmcegpajfnndaaWGuard
import Derived.Test.YtkmcegpajfnndaaWNEv
import Derived.Test.YtkmcegpajfnndaaWMore
namespace Go.Proofs.Ytkmcegpajfnndaa.PG
open Go.RowKit Go.Proofs.YtkmcegpajfnndaaW.PrintWords Go.Proofs.YtkmcegpajfnndaaW.PrintLast Go.Proofs.YtkmcegpajfnndaaW.PrintMore
attribute [local go_sem] max2_int min2_int max_two min_two max_three min_three max_four min_four   -- for this text's walks alone
set_option linter.unusedVariables false
set_option linter.unusedSimpArgs false



def errW : Option Int → Value
  | none => .nilIface
  | some c => .iface 0 (.int .i64 c)
theorem errW_none : errW none = .nilIface := rfl
theorem errW_some (c : Int) : errW (some c) = .iface 0 (.int .i64 c) := rfl

theorem info3 : (Try.prog.info? 3).map (fun i => (i.zero, i.size, i.bytes)) = some (some (.int .i64 0), 1, 8) := by kernel_rfl
-- the values' own types

end Go.Proofs.Ytkmcegpajfnndaa.PG

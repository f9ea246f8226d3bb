/- Written by a program of this session (wip/tools/xprint.py, over the functions of the kit's print): functions of the given program as Lean functions, each with its contract, or a law's row; no condition. -/
import Derived.Test.YtejnhhjldddbdaaProg
import Derived.Below
import Derived.Deep.Draws
import Derived.Deep.AppendLies
import Derived.Maps.AppendAt
import Derived.OwnWalk
import Derived.Laws.BytesArg
import Derived.Laws.MakeOwn
import Derived.Laws.OwnMore
import Derived.Deep.OwnRows
import Derived.Tactics
import Derived.Lib.ConvBytes
import Derived.Laws.Slices
import Derived.WalkKit
import Derived.KernelRfl
import Derived.RowKit3
import Derived.Deep.LoopGhost
import Derived.Deep.QuietTactic
import Derived.BigQuiet
import Derived.WideLaws
import Derived.Deep.DeepCutAuto
import Derived.Deep.CutBlock
import Derived.Deep.RegionHeld3
import Derived.Laws.Rows
import Derived.Lib.AppendStr
import Derived.ArgAppend
import Derived.Laws.IdiomCopy
import Derived.OrdersHeld
import Derived.Laws.BitsLemmas
import Derived.RowKit
import Derived.WalkLawsBesides
import Derived.WalkSpells
import Derived.Outline
import Derived.Laws.EntriesVeiled
import Derived.Lib.Hide
import Derived.Laws.Cover3
import Derived.Test.YtejnhhjldddbdaaWWords
import Derived.Test.YtejnhhjldddbdaaWLast
import Derived.Test.YtejnhhjldddbdaaWTab
import Derived.Test.YtejnhhjldddbdaaWFour
import Derived.Test.YtejnhhjldddbdaaWQPut
import Derived.Test.YtejnhhjldddbdaaWApart
import Derived.Test.YtejnhhjldddbdaaWArr
import Derived.Test.YtejnhhjldddbdaaWZeros
import Derived.Test.YtejnhhjldddbdaaWFoot
import Derived.Test.YtejnhhjldddbdaaWKept
import Derived.Test.YtejnhhjldddbdaaWShare
import Derived.Test.YtejnhhjldddbdaaWN
import Derived.Test.YtejnhhjldddbdaaWFootNe
import Derived.Test.YtejnhhjldddbdaaWAt
import Derived.Test.YtejnhhjldddbdaaWEqStruct
import Derived.Test.YtejnhhjldddbdaaWRepsOne
import Derived.Test.YtejnhhjldddbdaaWInv
import Derived.Test.YtejnhhjldddbdaaWInvWords
import Derived.Test.YtejnhhjldddbdaaWGuard
import Derived.Test.YtejnhhjldddbdaaWNEv
import Derived.Test.YtejnhhjldddbdaaWMore
namespace Go.Proofs.Ytejnhhjldddbdaa.PG
open Go.RowKit Go.Proofs.YtejnhhjldddbdaaW.PrintWords Go.Proofs.YtejnhhjldddbdaaW.PrintLast Go.Proofs.YtejnhhjldddbdaaW.PrintMore
attribute [local go_sem] max2_int min2_int max_two min_two max_three min_three max_four min_four   -- for this text's walks alone
set_option linter.unusedVariables false
set_option linter.unusedSimpArgs false



def errW : Option Int → Value
  | none => .nilIface
  | some c => .iface 0 (.int .i64 c)
theorem errW_none : errW none = .nilIface := rfl
theorem errW_some (c : Int) : errW (some c) = .iface 0 (.int .i64 c) := rfl

theorem info3 : (Try.prog.info? 3).map (fun i => (i.zero, i.size, i.bytes)) = some (some (.int .i64 0), 1, 8) := by kernel_rfl
-- the values' own types

end Go.Proofs.Ytejnhhjldddbdaa.PG

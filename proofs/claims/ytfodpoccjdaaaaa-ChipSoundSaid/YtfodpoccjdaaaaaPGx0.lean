/- Written by a program of this session (wip/tools/xprint.py, over the functions of the kit's print): functions of the given program as Lean functions, each with its contract, or a law's row; no condition. -/
import Derived.Test.YtfodpoccjdaaaaaProg
import Derived.Below
import Derived.Deep.Draws
import Derived.Deep.AppendLies
import Derived.Maps.AppendAt
import Derived.OwnWalk
import Derived.Laws.BytesArg
import Derived.Laws.MakeOwn
import Derived.Laws.OwnMore
import Derived.Deep.OwnRows
import Derived.Tactics
import Derived.Lib.ConvBytes
import Derived.Laws.Slices
import Derived.WalkKit
import Derived.KernelRfl
import Derived.RowKit3
import Derived.Deep.LoopGhost
import Derived.Deep.QuietTactic
import Derived.BigQuiet
import Derived.WideLaws
import Derived.Deep.DeepCutAuto
import Derived.Deep.CutBlock
import Derived.Deep.RegionHeld3
import Derived.Laws.Rows
import Derived.Lib.AppendStr
import Derived.ArgAppend
import Derived.Laws.IdiomCopy
import Derived.OrdersHeld
import Derived.Laws.BitsLemmas
import Derived.RowKit
import Derived.WalkLawsBesides
import Derived.WalkSpells
import Derived.Outline
import Derived.Laws.EntriesVeiled
import Derived.Lib.Hide
import Derived.Laws.Cover3
import Derived.Laws.Rows
import Derived.Test.YtfodpoccjdaaaaaWWords
import Derived.Test.YtfodpoccjdaaaaaWLast
import Derived.Test.YtfodpoccjdaaaaaWTab
import Derived.Test.YtfodpoccjdaaaaaWFour
import Derived.Test.YtfodpoccjdaaaaaWQPut
import Derived.Test.YtfodpoccjdaaaaaWApart
import Derived.Test.YtfodpoccjdaaaaaWArr
import Derived.Test.YtfodpoccjdaaaaaWZeros
import Derived.Test.YtfodpoccjdaaaaaWFoot
import Derived.Test.YtfodpoccjdaaaaaWKept
import Derived.Test.YtfodpoccjdaaaaaWShare
import Derived.Test.YtfodpoccjdaaaaaWN
import Derived.Test.YtfodpoccjdaaaaaWFootNe
import Derived.Test.YtfodpoccjdaaaaaWAt
import Derived.Test.YtfodpoccjdaaaaaWEqStruct
import Derived.Test.YtfodpoccjdaaaaaWRepsOne
import Derived.Test.YtfodpoccjdaaaaaWInv
import Derived.Test.YtfodpoccjdaaaaaWInvWords
import Derived.Test.YtfodpoccjdaaaaaWGuard
import Derived.Test.YtfodpoccjdaaaaaWNEv
import Derived.Test.YtfodpoccjdaaaaaWMore
namespace Go.Proofs.Ytfodpoccjdaaaaa.PG
open Go.RowKit Go.Proofs.YtfodpoccjdaaaaaW.PrintWords Go.Proofs.YtfodpoccjdaaaaaW.PrintLast Go.Proofs.YtfodpoccjdaaaaaW.PrintMore
attribute [local go_sem] max2_int min2_int max_two min_two max_three min_three max_four min_four   -- for this text's walks alone
set_option linter.unusedVariables false
set_option linter.unusedSimpArgs false



def errW : Option Int → Value
  | none => .nilIface
  | some c => .iface 0 (.int .i64 c)
theorem errW_none : errW none = .nilIface := rfl
theorem errW_some (c : Int) : errW (some c) = .iface 0 (.int .i64 c) := rfl

theorem info3 : (Try.prog.info? 3).map (fun i => (i.zero, i.size, i.bytes)) = some (some (.int .i64 0), 1, 8) := by kernel_rfl
theorem info9 : (Try.prog.info? 9).map (fun i => (i.zero, i.size, i.bytes)) = some (some (.string ⟨#[]⟩), 1, 16) := by kernel_rfl
-- the values' own types

theorem xu8_w (x : Int) : IntKind.u8.wrap x = x % 256 := by simp [IntKind.wrap, IntKind.bits, IntKind.signed]
end Go.Proofs.Ytfodpoccjdaaaaa.PG

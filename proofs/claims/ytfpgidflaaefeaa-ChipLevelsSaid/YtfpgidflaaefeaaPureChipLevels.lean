/- What the law on levels leaves to show beside its walk: one finite computation. No condition. -/
import Derived.Test.YtfpgidflaaefeaaPGxf3
namespace Go.Proofs.Ytfpgidflaaefeaa.Pure
open Go.RowKit Go.Proofs.Ytfpgidflaaefeaa.PG Go.Proofs.YtfpgidflaaefeaaW.PrintWords Go.Proofs.YtfpgidflaaefeaaW.PrintLast
theorem ChipLevels : orchestrionlaw15_ChipLevels.Pure := ⟨60, by decide +kernel⟩
end Go.Proofs.Ytfpgidflaaefeaa.Pure

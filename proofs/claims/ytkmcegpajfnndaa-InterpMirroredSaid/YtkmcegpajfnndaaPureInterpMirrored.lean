/- What the law on mirrored weights leaves to show beside its walk: nothing (the walk tries all fractions). No condition. -/
import Derived.Test.YtkmcegpajfnndaaPGxf4
namespace Go.Proofs.Ytkmcegpajfnndaa.Pure
open Go.RowKit Go.Proofs.Ytkmcegpajfnndaa.PG
theorem InterpMirrored : orchestrionlaw13_InterpMirrored.Pure := fun _ _ _ _ => trivial
end Go.Proofs.Ytkmcegpajfnndaa.Pure

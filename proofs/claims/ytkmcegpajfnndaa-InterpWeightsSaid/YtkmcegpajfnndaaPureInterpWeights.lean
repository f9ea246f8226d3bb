/-
  For every kind and fraction the program's weights and shift are those of the reference (a kind or a fraction out of range: the same refusal). No condition.
-/
import Derived.Test.YtkmcegpajfnndaaPGxf3
namespace Go.Proofs.Ytkmcegpajfnndaa.Pure
open Go.RowKit Go.Proofs.Ytkmcegpajfnndaa.PG Go.Proofs.YtkmcegpajfnndaaW.PrintWords Go.Proofs.YtkmcegpajfnndaaW.PrintLast

theorem weights_all : ∀ n : Nat, n < 5 → ∀ m : Nat, m < 256 → orchestrionlaw13_InterpWeights.f 40 n m = some true := by decide +kernel

theorem InterpWeights : orchestrionlaw13_InterpWeights.Pure := by
  intro a0 a1 _ _
  by_cases c1 : a0 < 0
  · refine ⟨10, ?_⟩
    simp [orchestrionlaw13_InterpWeights.f, interp_Weights.f, orchestrionref13_Weights.f, orchestrionref13_Weights.j0, slices_Equal_int_int.f, slices_Equal_int_int.l0, c1]
  by_cases c2 : 4 < a0
  · refine ⟨10, ?_⟩
    simp [orchestrionlaw13_InterpWeights.f, interp_Weights.f, orchestrionref13_Weights.f, orchestrionref13_Weights.j0, slices_Equal_int_int.f, slices_Equal_int_int.l0, c1, c2]
  have c2' : a0 ≤ 4 := by omega
  by_cases c3 : a1 < 0
  · refine ⟨10, ?_⟩
    simp [orchestrionlaw13_InterpWeights.f, interp_Weights.f, orchestrionref13_Weights.f, orchestrionref13_Weights.j0, orchestrionref13_Weights.j1, slices_Equal_int_int.f, slices_Equal_int_int.l0, c1, c2, c3]
  by_cases c4 : 255 < a1
  · refine ⟨10, ?_⟩
    simp [orchestrionlaw13_InterpWeights.f, interp_Weights.f, orchestrionref13_Weights.f, orchestrionref13_Weights.j0, orchestrionref13_Weights.j1, slices_Equal_int_int.f, slices_Equal_int_int.l0, c1, c2, c3, c4]
  refine ⟨40, ?_⟩
  have h := weights_all a0.toNat (by omega) a1.toNat (by omega)
  rw [Int.toNat_of_nonneg (by omega), Int.toNat_of_nonneg (by omega)] at h
  exact h
#print axioms InterpWeights
end Go.Proofs.Ytkmcegpajfnndaa.Pure

/- What the law on octaves leaves to show beside its walk: an octave doubles a power and a greater exponent has no smaller one. No condition. -/
import Derived.Test.YtmoomdmdcjokgaaPureLib
import Derived.Test.YtmoomdmdcjokgaaPGxf3
namespace Go.Proofs.Ytmoomdmdcjokgaa.Pure
open Go.RowKit Go.Proofs.Ytmoomdmdcjokgaa.PG Go.Proofs.YtmoomdmdcjokgaaW.PrintWords Go.Proofs.YtmoomdmdcjokgaaW.PrintLast Go.Proofs.YtmoomdmdcjokgaaW.PrintMore
theorem awake_at : orchestrionlaw01_awake.f 9000 = some true := by decide +kernel
theorem awake_k {k : Nat} (hk : 9000 ≤ k) : orchestrionlaw01_awake.f k = some true := at_rounds (g := fun k => orchestrionlaw01_awake.f k) (fun k => orchestrionlaw01_awake.mono k) hk awake_at
theorem ToneOctaves : orchestrionlaw01_ToneOctaves.Pure := by
  refine ⟨9000, awake_at, fun a0 a1 h0 h1 h2 h3 => ?_⟩
  have e : (a0 + 768 + 7680).toNat = (a0 + 7680).toNat + 768 := by omega
  have q1 := E_pos (a0 + 7680).toNat
  have q4 := E_le (u := (a0 + 7680).toNat) (v := (a1 + 7680).toNat) (by omega)
  exact ⟨_, _, _, exp_eq (v := a0 + 768) (by omega) (by omega) (by decide), exp_eq (v := a0) (by omega) (by omega) (by decide), exp_eq (v := a1) (by omega) (by omega) (by decide), by rw [e]; exact E_oct _, q4, by omega, E_hi (by omega), E_hi (by omega)⟩
end Go.Proofs.Ytmoomdmdcjokgaa.Pure

/- What the law on rising pitches leaves to show beside its walk: frequencies do not fall, periods do not rise, and the pitch of a period is the greatest one that has it at least. No condition. -/
import Derived.Test.YtmoomdmdcjokgaaPureToneOctaves
import Derived.Test.YtmoomdmdcjokgaaPGxf4
namespace Go.Proofs.Ytmoomdmdcjokgaa.Pure
open Go.RowKit Go.Proofs.Ytmoomdmdcjokgaa.PG Go.Proofs.YtmoomdmdcjokgaaW.PrintWords Go.Proofs.YtmoomdmdcjokgaaW.PrintLast Go.Proofs.YtmoomdmdcjokgaaW.PrintMore
theorem E_11520 : E 11520 = 2097152 := by decide +kernel
theorem ToneRises : orchestrionlaw01_ToneRises.Pure := by
  refine ⟨9000, awake_at, fun p q rate h0 h1 h2 h3 h4 => ?_⟩
  refine ⟨_, _, _, _, freq_eq h3 h4 h0 (by omega) (by decide), freq_eq h3 h4 (by omega) h1 (by decide), period_eq h0 (by omega) (by decide), period_eq (by omega) h1 (by decide), Fq_mono (by omega) h2, Pd_anti h2, Pd_lo q, fun g0 g1 => ?_⟩
  have hp := Pd_lo p
  have hp2 : Pd p ≤ 1048576 := by
    have := E_le (u := (11520 - p).toNat) (v := 11520) (by omega)
    rw [E_11520] at this
    unfold Pd mx
    omega
  obtain ⟨r, hr, r0, r1, r2, r3⟩ := pitch_eq hp hp2 (k := 9000) (by decide)
  have hpr : p ≤ r := by
    rcases r3 with r3 | r3
    · omega
    · by_cases h : r + 1 ≤ p
      · have := Pd_anti h; omega
      · omega
  have e := Pd_anti hpr
  have hpe : Pd r = Pd p := by
    rcases r2 with r2 | r2
    · obtain rfl : p = r := by omega
      rfl
    · omega
  refine ⟨r, hr, ?_, hpr, ?_⟩
  · rw [period_eq (p := r) (by omega) (by omega) (by decide), hpe]
  · rcases r3 with r3 | r3
    · exact .inl r3
    · by_cases c : r = 7679
      · exact .inl c
      · exact .inr ⟨by omega, _, period_eq (p := r + 1) (by omega) (by omega) (by decide), r3⟩
end Go.Proofs.Ytmoomdmdcjokgaa.Pure

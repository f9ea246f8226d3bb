/- Waves lie from -255 to 255 and come back after 64, those of kinds 0 and 2 turn over after 32; for all kinds, places and seeds. No condition. -/
import Derived.Test.YtmoomdmdcjokgaaPureToneOctaves
import Derived.Test.YtmoomdmdcjokgaaPGxf5
namespace Go.Proofs.Ytmoomdmdcjokgaa.Pure
open Go.RowKit Go.Proofs.Ytmoomdmdcjokgaa.PG Go.Proofs.YtmoomdmdcjokgaaW.PrintWords Go.Proofs.YtmoomdmdcjokgaaW.PrintLast Go.Proofs.YtmoomdmdcjokgaaW.PrintMore
theorem and63 (n : Int) : Go.bits .and .i64 n 63 = n % 64 := by
  have h63 : (BitVec.ofInt 64 63).toNat = 2 ^ 6 - 1 := by decide
  have key : (BitVec.ofInt 64 n &&& BitVec.ofInt 64 63).toNat = (n % ((2 ^ 64 : Nat) : Int)).toNat % 2 ^ 6 := by
    rw [BitVec.toNat_and, BitVec.toNat_ofInt, h63, Nat.and_two_pow_sub_one_eq_mod]
  show IntKind.i64.wrap ((BitVec.ofInt 64 n &&& BitVec.ofInt 64 63).toNat : Nat) = n % 64
  rw [key, IntKind.wrap_i64]
  omega
theorem andM31 (n : Int) : Go.bits .and .i64 n 2147483647 = n % 2147483648 := by
  have h63 : (BitVec.ofInt 64 2147483647).toNat = 2 ^ 31 - 1 := by decide
  have key : (BitVec.ofInt 64 n &&& BitVec.ofInt 64 2147483647).toNat = (n % ((2 ^ 64 : Nat) : Int)).toNat % 2 ^ 31 := by
    rw [BitVec.toNat_and, BitVec.toNat_ofInt, h63, Nat.and_two_pow_sub_one_eq_mod]
  show IntKind.i64.wrap ((BitVec.ofInt 64 n &&& BitVec.ofInt 64 2147483647).toNat : Nat) = n % 2147483648
  rw [key, IntKind.wrap_i64]
  omega
theorem sine_some {p : Int} (h0 : 0 ≤ p) (h1 : p < 64) : ∃ v, tone_sine.f p = some v ∧ -255 ≤ v ∧ v ≤ 255 := by
  unfold tone_sine.f
  rw [if_pos h0]
  by_cases c1 : p < 32
  · rw [if_pos c1]
    by_cases c2 : p ≤ 16
    · rw [if_pos c2]
      have := sine_bd p.toNat (by omega)
      exact ⟨_, rfl, by omega, by omega⟩
    · rw [if_neg c2]
      have := sine_bd (32 - p).toNat (by omega)
      exact ⟨_, rfl, by omega, by omega⟩
  · rw [if_neg c1, if_pos (by omega)]
    by_cases c2 : p ≤ 48
    · rw [if_pos c2]
      have := sine_bd (p - 32).toNat (by omega)
      exact ⟨_, rfl, by omega, by omega⟩
    · rw [if_neg c2]
      have := sine_bd (32 - (p - 32)).toNat (by omega)
      exact ⟨_, rfl, by omega, by omega⟩
theorem sine_turn {p v : Int} (h0 : 0 ≤ p) (h1 : p < 64) (h : tone_sine.f p = some v) : tone_sine.f ((p + 32) % 64) = some (-v) := by
  unfold tone_sine.f at h ⊢
  rw [if_pos h0] at h
  rw [if_pos (by omega)]
  by_cases c1 : p < 32
  · rw [if_pos c1] at h
    rw [if_neg (by omega), if_pos (by omega)]
    by_cases c2 : p ≤ 16
    · rw [if_pos c2] at h
      rw [if_pos (by omega), ← Option.some.inj h, show (p + 32) % 64 - 32 = p from by omega]
    · rw [if_neg c2] at h
      rw [if_neg (by omega), ← Option.some.inj h, show 32 - ((p + 32) % 64 - 32) = 32 - p from by omega]
  · rw [if_neg c1, if_pos (by omega)] at h
    rw [if_pos (by omega)]
    by_cases c2 : p ≤ 48
    · rw [if_pos c2] at h
      rw [if_pos (by omega), ← Option.some.inj h, show (p + 32) % 64 = p - 32 from by omega, Int.neg_neg]
    · rw [if_neg c2] at h
      rw [if_neg (by omega), ← Option.some.inj h, show (p + 32) % 64 = p - 32 from by omega, Int.neg_neg]
theorem wave_some (a0 a1 a2 : Int) : ∃ v, tone_Wave.f a0 a1 a2 = some v ∧ -255 ≤ v ∧ v ≤ 255 ∧ ∀ b, b % 64 = a1 % 64 → tone_Wave.f a0 b a2 = some v := by
  unfold tone_Wave.f
  simp only [and63]
  by_cases c0 : a0 = 0
  · obtain ⟨v, hv, h0, h1⟩ := sine_some (p := a1 % 64) (by omega) (by omega)
    refine ⟨v, by rw [if_pos c0, hv]; rfl, h0, h1, fun b hb => ?_⟩
    rw [hb, if_pos c0, hv]; rfl
  · simp only [if_neg c0]
    by_cases c1 : a0 = 1
    · simp only [if_pos c1]
      refine ⟨_, rfl, ?_, ?_, fun b hb => by rw [hb]⟩
      all_goals rw [w64 (x := 8 * (a1 % 64)) (by omega) (by omega), w64 (by omega) (by omega)]; omega
    · simp only [if_neg c1]
      by_cases c2 : a0 = 2
      · simp only [if_pos c2]
        by_cases c3 : a1 % 64 < 32
        · exact ⟨255, by rw [if_pos c3], by omega, by omega, fun b hb => by rw [hb, if_pos c3]⟩
        · exact ⟨-255, by rw [if_neg c3], by omega, by omega, fun b hb => by rw [hb, if_neg c3]⟩
      · simp only [if_neg c2]
        by_cases c3 : a0 = 3
        · simp only [if_pos c3]
          unfold tone_Next.f tone_in.f
          by_cases c4 : 0 ≤ a2
          · rw [if_pos c4]
            simp only [Option.bind_some]
            by_cases c5 : a2 ≤ 2147483647
            · rw [decide_eq_true c5]
              simp only [if_true, Option.bind_some, andM31]
              have hm := Int.emod_nonneg (wrap64 (wrap64 (a2 * 1103515245) + 12345)) (b := 2147483648) (by decide)
              have hm2 := Int.emod_lt_of_pos (wrap64 (wrap64 (a2 * 1103515245) + 12345)) (b := 2147483648) (by decide)
              refine ⟨_, rfl, ?_, ?_, fun _ _ => rfl⟩
              all_goals rw [tdivn hm, w64 (x := _ / 256) (by omega) (by omega), Int.tmod_eq_emod_of_nonneg (by omega), w64 (by omega) (by omega)]; omega
            · rw [decide_eq_false c5]
              exact ⟨0, by simp, by omega, by omega, fun _ _ => by simp⟩
          · rw [if_neg c4]
            exact ⟨0, by simp, by omega, by omega, fun _ _ => by simp⟩
        · simp only [if_neg c3]
          exact ⟨0, rfl, by omega, by omega, fun _ _ => rfl⟩
theorem wave_turn {a0 a1 a2 v : Int} (h : a0 = 0 ∨ a0 = 2) (hv : tone_Wave.f a0 a1 a2 = some v) {b : Int} (hb : b % 64 = (a1 + 32) % 64) : tone_Wave.f a0 b a2 = some (-v) := by
  unfold tone_Wave.f at hv ⊢
  simp only [and63] at hv ⊢
  rcases h with rfl | rfl
  · simp only [if_true] at hv ⊢
    obtain ⟨u, hu, _, _⟩ := sine_some (p := a1 % 64) (by omega) (by omega)
    rw [hu] at hv
    obtain rfl := Option.some.inj hv
    have := sine_turn (p := a1 % 64) (by omega) (by omega) hu
    rw [show b % 64 = (a1 % 64 + 32) % 64 from by omega, this]
    rfl
  · simp only [if_neg (show ¬ (2 : Int) = 0 from by decide), if_neg (show ¬ (2 : Int) = 1 from by decide), if_true] at hv ⊢
    by_cases c : a1 % 64 < 32
    · rw [if_pos c] at hv
      rw [if_neg (by omega), ← Option.some.inj hv]
    · rw [if_neg c] at hv
      rw [if_pos (by omega), ← Option.some.inj hv]
      rfl
theorem ToneWaves : orchestrionlaw01_ToneWaves.Pure := by
  intro a0 a1 a2 _ _ _
  refine ⟨9002, ?_⟩
  have aw : orchestrionlaw01_awake.f 9001 = some true := awake_k (by decide)
  unfold orchestrionlaw01_ToneWaves.f
  have out : orchestrionlaw01_ToneWaves.j0 9002 a0 a1 a2 true = some true := by
    show orchestrionlaw01_ToneWaves.j0 (9001 + 1) a0 a1 a2 true = _
    simp only [orchestrionlaw01_ToneWaves.j0]
    rw [if_pos trivial, aw]
    rfl
  by_cases c1 : a1 > 1152921504606846976
  · rw [if_pos c1]; exact out
  rw [if_neg c1]
  by_cases c2 : a1 < -1152921504606846976
  · rw [decide_eq_true c2]; exact out
  rw [decide_eq_false c2]
  show orchestrionlaw01_ToneWaves.j0 (9001 + 1) a0 a1 a2 false = _
  simp only [orchestrionlaw01_ToneWaves.j0]
  obtain ⟨v, hv, h0, h1, hs⟩ := wave_some a0 a1 a2
  have hs1 := hs (a1 + 64) (by omega)
  rw [if_neg (by simp), hv, w64 (x := a1 + 64) (by omega) (by omega), hs1]
  simp only [Option.bind_some]
  rw [if_neg (by omega), if_neg (by omega), show (v != v) = false from by simp]
  show orchestrionlaw01_ToneWaves.j1 (9000 + 1) a0 a1 a2 v false = _
  simp only [orchestrionlaw01_ToneWaves.j1]
  rw [if_neg (by simp), awake_at, w64 (x := a1 + 32) (by omega) (by omega), w64 (x := -v) (by omega) (by omega)]
  by_cases c3 : a0 = 0
  · rw [if_pos c3, wave_turn (.inl c3) hv rfl]
    simp
  rw [if_neg c3]
  by_cases c4 : a0 = 2
  · rw [if_pos c4, wave_turn (.inr c4) hv rfl]
    simp
  rw [if_neg c4]
  rfl
#print axioms ToneWaves
end Go.Proofs.Ytmoomdmdcjokgaa.Pure

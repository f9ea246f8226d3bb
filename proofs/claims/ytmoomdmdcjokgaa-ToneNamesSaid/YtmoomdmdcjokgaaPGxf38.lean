/- Written by a program of this session (wip/tools/xprint.py, over the functions of the kit's print): functions of the given program as Lean functions, each with its contract, or a law's row; no condition. -/
import Derived.Test.YtmoomdmdcjokgaaPGx0
namespace Go.Proofs.Ytmoomdmdcjokgaa.PG
open Go.RowKit Go.Proofs.YtmoomdmdcjokgaaW.PrintWords Go.Proofs.YtmoomdmdcjokgaaW.PrintLast Go.Proofs.YtmoomdmdcjokgaaW.PrintMore
attribute [local go_sem] max2_int min2_int max_two min_two max_three min_three max_four min_four   -- for this text's walks alone
set_option linter.unusedVariables false
set_option linter.unusedSimpArgs false

/-! ### orchestrionref01_key: function 38 -/
def orchestrionref01_key.f (a0 : Int) : Option (ByteArray) := if 0 ≤ (wrap64 (2 * a0)) then (if (wrap64 (2 * a0)) ≤ (wrap64 ((wrap64 (2 * a0)) + 2)) then (if (wrap64 ((wrap64 (2 * a0)) + 2)) ≤ 24 then (some ((⟨#[67, 45, 67, 35, 68, 45, 68, 35, 69, 45, 70, 45, 70, 35, 71, 45, 71, 35, 65, 45, 65, 35, 66, 45]⟩ : ByteArray).extract ((wrap64 (2 * a0)) : Int).toNat ((wrap64 ((wrap64 (2 * a0)) + 2)) : Int).toNat)) else (none)) else (none)) else (none)
set_option maxHeartbeats 8000000 in
set_option maxRecDepth 100000 in
theorem orchestrionref01_key.calls (a0 : Int) (r : ByteArray) (w : World) (h : orchestrionref01_key.f a0 = some r) :
    Calls Try.prog 38 #[.int .i64 a0] w fun e w' => e = .returned (.string r) ∧ Drawn0 w w' := by
  have H : (if 0 ≤ (wrap64 (2 * a0)) then (if (wrap64 (2 * a0)) ≤ (wrap64 ((wrap64 (2 * a0)) + 2)) then (if (wrap64 ((wrap64 (2 * a0)) + 2)) ≤ 24 then (some ((⟨#[67, 45, 67, 35, 68, 45, 68, 35, 69, 45, 70, 45, 70, 35, 71, 45, 71, 35, 65, 45, 65, 35, 66, 45]⟩ : ByteArray).extract ((wrap64 (2 * a0)) : Int).toNat ((wrap64 ((wrap64 (2 * a0)) + 2)) : Int).toNat)) else (none)) else (none)) else (none)) = some r := h
  clear h
  obtain ⟨ji2, hji2⟩ : ∃ j_ : Int, (wrap64 (2 * a0)) = j_ := ⟨_, rfl⟩
  replace H : (if 0 ≤ (ji2) then (if (ji2) ≤ (wrap64 ((ji2) + 2)) then (if (wrap64 ((ji2) + 2)) ≤ 24 then (some ((⟨#[67, 45, 67, 35, 68, 45, 68, 35, 69, 45, 70, 45, 70, 35, 71, 45, 71, 35, 65, 45, 65, 35, 66, 45]⟩ : ByteArray).extract ((ji2) : Int).toNat ((wrap64 ((ji2) + 2)) : Int).toNat)) else (none)) else (none)) else (none)) = some r := by first | (rw [hji2] at H; exact H) | (simp only [hji2] at H ⊢; exact H)
  have hji2w : (IntKind.i64.wrap (2 * a0)) = ji2 := (i64_w _).trans hji2
  by_cases c3 : 0 ≤ (ji2)
  · rw [if_pos c3] at H
    have c3b0 := eq_true c3
    have c3b1 : decide (0 ≤ (ji2)) = true := decide_eq_true c3
    clear c3
    by_cases c4 : (ji2) ≤ (wrap64 ((ji2) + 2))
    · rw [if_pos c4] at H
      have c4b0 := eq_true c4
      have c4b1 : decide ((ji2) ≤ (wrap64 ((ji2) + 2))) = true := decide_eq_true c4
      by_cases c5 : (wrap64 ((ji2) + 2)) ≤ 24
      · rw [if_pos c5] at H
        have c5b0 := eq_true c5
        have c5b1 : decide ((wrap64 ((ji2) + 2)) ≤ 24) = true := decide_eq_true c5
        obtain rfl := Option.some.inj H
        go_enter Try.func38, Try.ntmps38
        go_wp2
        go_ret
        exact ⟨by first | rfl | (simp; done) | (simp only [← hji2] <;> (first | rfl | simp)) | (simp [*]; done), by repeat (first | exact Drawn0.refl _ | apply Drawn0.step)⟩
      · rw [if_neg c5] at H
        exact absurd H (by simp)
    · rw [if_neg c4] at H
      exact absurd H (by simp)
  · rw [if_neg c3] at H
    exact absurd H (by simp)

end Go.Proofs.Ytmoomdmdcjokgaa.PG

/- Written by a program of this session (wip/tools/xprint.py, over the functions of the kit's print): functions of the given program as Lean functions, each with its contract, or a law's row; no condition. -/
import Derived.Test.YtkmcegpajfnndaaPGx0
namespace Go.Proofs.Ytkmcegpajfnndaa.PG
open Go.RowKit Go.Proofs.YtkmcegpajfnndaaW.PrintWords Go.Proofs.YtkmcegpajfnndaaW.PrintLast Go.Proofs.YtkmcegpajfnndaaW.PrintMore
attribute [local go_sem] max2_int min2_int max_two min_two max_three min_three max_four min_four   -- for this text's walks alone
set_option linter.unusedVariables false
set_option linter.unusedSimpArgs false

/-! ### orchestrionref13_cubic: function 41 -/
def orchestrionref13_cubic.f (a0 : Int) (a1 : Int) : Option (Int) := if a0 = (-1) then (some (wrap64 ((wrap64 ((wrap64 ((wrap64 ((wrap64 (-a1)) * a1)) * a1)) + (wrap64 ((wrap64 (512 * a1)) * a1)))) - (wrap64 (65536 * a1))))) else (if a0 = 0 then (some (wrap64 ((wrap64 ((wrap64 ((wrap64 ((wrap64 (3 * a1)) * a1)) * a1)) - (wrap64 ((wrap64 (1280 * a1)) * a1)))) + 33554432))) else (if a0 = 1 then (some (wrap64 ((wrap64 ((wrap64 ((wrap64 ((wrap64 ((-3) * a1)) * a1)) * a1)) + (wrap64 ((wrap64 (1024 * a1)) * a1)))) + (wrap64 (65536 * a1))))) else (if a0 = 2 then (some (wrap64 ((wrap64 ((wrap64 (a1 * a1)) * a1)) - (wrap64 ((wrap64 (256 * a1)) * a1))))) else (some 0))))
set_option maxHeartbeats 8000000 in
set_option maxRecDepth 100000 in
theorem orchestrionref13_cubic.calls (a0 : Int) (a1 : Int) (r : Int) (w : World) (h : orchestrionref13_cubic.f a0 a1 = some r) :
    Calls Try.prog 41 #[.int .i64 a0, .int .i64 a1] w fun e w' => e = .returned (.int .i64 r) ∧ Drawn0 w w' := by
  have H : (if a0 = (-1) then (some (wrap64 ((wrap64 ((wrap64 ((wrap64 ((wrap64 (-a1)) * a1)) * a1)) + (wrap64 ((wrap64 (512 * a1)) * a1)))) - (wrap64 (65536 * a1))))) else (if a0 = 0 then (some (wrap64 ((wrap64 ((wrap64 ((wrap64 ((wrap64 (3 * a1)) * a1)) * a1)) - (wrap64 ((wrap64 (1280 * a1)) * a1)))) + 33554432))) else (if a0 = 1 then (some (wrap64 ((wrap64 ((wrap64 ((wrap64 ((wrap64 ((-3) * a1)) * a1)) * a1)) + (wrap64 ((wrap64 (1024 * a1)) * a1)))) + (wrap64 (65536 * a1))))) else (if a0 = 2 then (some (wrap64 ((wrap64 ((wrap64 (a1 * a1)) * a1)) - (wrap64 ((wrap64 (256 * a1)) * a1))))) else (some 0))))) = some r := h
  clear h
  by_cases c3 : a0 = (-1)
  · rw [if_pos c3] at H
    have c3b0 : (a0 == (-1)) = true := beq_iff_eq.mpr c3
    have c3b1 : (a0 != (-1)) = false := bne_eq_false_iff_eq.mpr c3
    clear c3
    obtain rfl := Option.some.inj H
    go_enter Try.func41, Try.ntmps41
    go_wp2
    go_ret
    exact ⟨by first | rfl | (simp; done) | (simp [*]; done), by repeat (first | exact Drawn0.refl _ | apply Drawn0.step)⟩
  · rw [if_neg c3] at H
    have c3b0 : (a0 == (-1)) = false := beq_eq_false_iff_ne.mpr c3
    have c3b1 : (a0 != (-1)) = true := bne_iff_ne.mpr c3
    by_cases c4 : a0 = 0
    · rw [if_pos c4] at H
      have c4b0 : (a0 == 0) = true := beq_iff_eq.mpr c4
      have c4b1 : (a0 != 0) = false := bne_eq_false_iff_eq.mpr c4
      clear c4
      obtain rfl := Option.some.inj H
      go_enter Try.func41, Try.ntmps41
      go_wp2
      go_ret
      exact ⟨by first | rfl | (simp; done) | (simp [*]; done), by repeat (first | exact Drawn0.refl _ | apply Drawn0.step)⟩
    · rw [if_neg c4] at H
      have c4b0 : (a0 == 0) = false := beq_eq_false_iff_ne.mpr c4
      have c4b1 : (a0 != 0) = true := bne_iff_ne.mpr c4
      by_cases c5 : a0 = 1
      · rw [if_pos c5] at H
        have c5b0 : (a0 == 1) = true := beq_iff_eq.mpr c5
        have c5b1 : (a0 != 1) = false := bne_eq_false_iff_eq.mpr c5
        clear c5
        obtain rfl := Option.some.inj H
        go_enter Try.func41, Try.ntmps41
        go_wp2
        go_ret
        exact ⟨by first | rfl | (simp; done) | (simp [*]; done), by repeat (first | exact Drawn0.refl _ | apply Drawn0.step)⟩
      · rw [if_neg c5] at H
        have c5b0 : (a0 == 1) = false := beq_eq_false_iff_ne.mpr c5
        have c5b1 : (a0 != 1) = true := bne_iff_ne.mpr c5
        by_cases c6 : a0 = 2
        · rw [if_pos c6] at H
          have c6b0 : (a0 == 2) = true := beq_iff_eq.mpr c6
          have c6b1 : (a0 != 2) = false := bne_eq_false_iff_eq.mpr c6
          clear c6
          obtain rfl := Option.some.inj H
          go_enter Try.func41, Try.ntmps41
          go_wp2
          go_ret
          exact ⟨by first | rfl | (simp; done) | (simp [*]; done), by repeat (first | exact Drawn0.refl _ | apply Drawn0.step)⟩
        · rw [if_neg c6] at H
          have c6b0 : (a0 == 2) = false := beq_eq_false_iff_ne.mpr c6
          have c6b1 : (a0 != 2) = true := bne_iff_ne.mpr c6
          obtain rfl := Option.some.inj H
          go_enter Try.func41, Try.ntmps41
          go_wp2
          go_ret
          exact ⟨by first | rfl | (simp; done) | (simp [*]; done), by repeat (first | exact Drawn0.refl _ | apply Drawn0.step)⟩

end Go.Proofs.Ytkmcegpajfnndaa.PG

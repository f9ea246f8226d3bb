/- Written by a program of this session (wip/tools/xprint.py, over the functions of the kit's print): functions of the given program as Lean functions, each with its contract, or a law's row; no condition. -/
import Derived.Test.YtfpgidflaaefeaaPGx0
namespace Go.Proofs.Ytfpgidflaaefeaa.PG
open Go.RowKit Go.Proofs.YtfpgidflaaefeaaW.PrintWords Go.Proofs.YtfpgidflaaefeaaW.PrintLast Go.Proofs.YtfpgidflaaefeaaW.PrintMore
attribute [local go_sem] max2_int min2_int max_two min_two max_three min_three max_four min_four   -- for this text's walks alone
set_option linter.unusedVariables false
set_option linter.unusedSimpArgs false

/-! ### orchestrionref15_Level: function 34 -/
def orchestrionref15_Level.l0 : Nat → Int → Int → Int → Option (Int)
  | 0, _, _, _ => none
  | k + 1, x0, x3, x4 => if x4 > x0 then (orchestrionref15_Level.l0 k x0 (wrap64 (Int.tdiv (wrap64 (x3 * 46341)) 65536)) (wrap64 (x4 - 1))) else (some x3)
def orchestrionref15_Level.f (k : Nat) (a0 : Int) : Option (Int) := if a0 ≤ 0 then (some 0) else (orchestrionref15_Level.l0 k a0 8192 15)
theorem orchestrionref15_Level.mono_l : ∀ k, (∀ y0 y1 y2, LeO (orchestrionref15_Level.l0 k y0 y1 y2) (orchestrionref15_Level.l0 (k + 1) y0 y1 y2))
  | 0 => fun _ _ _ r h => (nomatch (show none = some r from h))
  | k + 1 => by
    have ih0 := orchestrionref15_Level.mono_l k
    · intro y0 y1 y2
      unfold orchestrionref15_Level.l0
      repeat' first
      | (with_reducible exact ih0 _ _ _)
      | (with_reducible exact LeO.refl _)
      | (with_reducible exact LeO.none _)
      | (with_reducible refine LeO.ite ?_ ?_)
      | (with_reducible refine LeO.bind ?_ (fun _ => ?_))
      | exact ih0 _ _ _
      | exact LeO.none _
      | refine LeO.ite ?_ ?_
      | refine LeO.bind ?_ (fun _ => ?_)
theorem orchestrionref15_Level.mono : ∀ a0 k, LeO (orchestrionref15_Level.f k a0) (orchestrionref15_Level.f (k + 1) a0) := by
  intro a0 k
  have ih0 := orchestrionref15_Level.mono_l k
  unfold orchestrionref15_Level.f
  repeat' first
      | (with_reducible exact ih0 _ _ _)
      | (with_reducible exact LeO.refl _)
      | (with_reducible exact LeO.none _)
      | (with_reducible refine LeO.ite ?_ ?_)
      | (with_reducible refine LeO.bind ?_ (fun _ => ?_))
      | exact ih0 _ _ _
      | exact LeO.none _
      | refine LeO.ite ?_ ?_
      | refine LeO.bind ?_ (fun _ => ?_)
set_option maxHeartbeats 8000000 in
set_option maxRecDepth 100000 in
theorem orchestrionref15_Level.calls (k : Nat) (a0 : Int) (r : Int) (w : World) (h : orchestrionref15_Level.f k a0 = some r) :
    Calls Try.prog 34 #[.int .i64 a0] w fun e w' => e = .returned (.int .i64 r) ∧ Drawn0 w w' := by
  have H : (if a0 ≤ 0 then (some 0) else (orchestrionref15_Level.l0 k a0 8192 15)) = some r := h
  clear h
  by_cases c2 : a0 ≤ 0
  · rw [if_pos c2] at H
    have c2b0 : decide (a0 ≤ 0) = true := decide_eq_true c2
    clear c2
    obtain rfl := Option.some.inj H
    go_enter Try.func34, Try.ntmps34
    go_wp2
    go_ret
    exact ⟨by first | rfl | (simp; done) | (simp [*]; done), by repeat (first | exact Drawn0.refl _ | apply Drawn0.step)⟩
  · rw [if_neg c2] at H
    have c2b0 : decide (a0 ≤ 0) = false := decide_eq_false c2
    clear c2
    have H' := Aside0.mk H
    clear H
    go_enter Try.func34, Try.ntmps34
    go_wp2
    go_loopg [3, 4] k (fun kq v3 v4 w' => ∃ (x3_1 : Int) (x4_1 : Int), v3 = .int .i64 x3_1 ∧ v4 = .int .i64 x4_1 ∧ Aside0 (orchestrionref15_Level.l0 kq a0 x3_1 x4_1 = some r) ∧ Aside0 (kq ≤ k) ∧ Drawn0 w w')
    case atStart => exact ⟨(8192), (15), (by first | rfl | (simp; done) | (simp [*]; done)), (by first | rfl | (simp; done) | (simp [*]; done)), H', ⟨Nat.le_refl _⟩, by repeat (first | exact Drawn0.refl _ | apply Drawn0.step)⟩
    case round =>
      clear H'
      try clear c2
      try clear c2b0
      try clear p2
      obtain ⟨x3_1, x4_1, rfl, rfl, HA, HK1, ⟨m1, rfl⟩⟩ := hrel
      cases gk with
      | zero => exact nomatch (show none = some _ from HA.out)
      | succ k1 =>
        have H := HA.out
        clear HA
        simp only [orchestrionref15_Level.l0] at H
        by_cases c3 : x4_1 > a0
        · rw [if_pos c3] at H
          have c3b0 : decide (a0 < x4_1) = true := decide_eq_true c3
          clear c3
          have H' := Aside0.mk H
          clear H
          go_wp2
          go_roundg k1
          case measure => have := HK1.out; omega
          case rel => exact ⟨(wrap64 (Int.tdiv (wrap64 (x3_1 * 46341)) 65536)), (wrap64 (x4_1 - 1)), (by first | rfl | (simp; done) | (simp [*]; done)), (by first | rfl | (simp; done) | (simp [*]; done)), H', ⟨by have := HK1.out; omega⟩, by repeat (first | exact Drawn0.refl _ | apply Drawn0.step)⟩
        · rw [if_neg c3] at H
          have c3b0 : decide (a0 < x4_1) = false := decide_eq_false c3
          clear c3
          obtain rfl := Option.some.inj H
          go_wp2
          go_ret
          exact ⟨by first | rfl | (simp; done) | (simp [*]; done), by repeat (first | exact Drawn0.refl _ | apply Drawn0.step)⟩

end Go.Proofs.Ytfpgidflaaefeaa.PG

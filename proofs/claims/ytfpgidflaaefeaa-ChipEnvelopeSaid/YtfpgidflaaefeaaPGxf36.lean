/- Written by a program of this session (wip/tools/xprint.py, over the functions of the kit's print): functions of the given program as Lean functions, each with its contract, or a law's row; no condition. -/
import Derived.Test.YtfpgidflaaefeaaPGx0
namespace Go.Proofs.Ytfpgidflaaefeaa.PG
open Go.RowKit Go.Proofs.YtfpgidflaaefeaaW.PrintWords Go.Proofs.YtfpgidflaaefeaaW.PrintLast Go.Proofs.YtfpgidflaaefeaaW.PrintMore
attribute [local go_sem] max2_int min2_int max_two min_two max_three min_three max_four min_four   -- for this text's walks alone
set_option linter.unusedVariables false
set_option linter.unusedSimpArgs false

/-! ### chip_shaped: function 36 -/
def chip_shaped.j0 : Nat → Int → Int → Int → Option (Int)
  | 0, _, _, _ => none
  | k + 1, x0, x1, x5 => if x1 < 32 then (some x5) else (if (Go.bits .and .i64 x0 8) = 0 then (some 0) else (if (Go.bits .and .i64 x0 1) = 0 then (if (Go.bits .and .i64 x0 2) = 0 then (some x5) else (some (wrap64 (31 - x5)))) else (if (((Go.bits .and .i64 x0 4) != 0) != ((Go.bits .and .i64 x0 2) != 0)) = true then (some 31) else (some 0))))
def chip_shaped.f (k : Nat) (a0 : Int) (a1 : Int) : Option (Int) := if (Go.bits .and .i64 a0 4) = 0 then (chip_shaped.j0 k a0 a1 (wrap64 (31 - (Int.tmod a1 32)))) else (chip_shaped.j0 k a0 a1 (Int.tmod a1 32))
theorem chip_shaped.mono_l : ∀ k, (∀ y0 y1 y2, LeO (chip_shaped.j0 k y0 y1 y2) (chip_shaped.j0 (k + 1) y0 y1 y2))
  | 0 => fun _ _ _ r h => by simp [chip_shaped.j0] at h
  | k + 1 => by
    have ih0 := chip_shaped.mono_l k
    · intro y0 y1 y2
      unfold chip_shaped.j0
      repeat' first
      | (with_reducible exact ih0 _ _ _)
      | (with_reducible exact LeO.refl _)
      | (with_reducible exact LeO.none _)
      | (with_reducible refine LeO.ite ?_ ?_)
      | (with_reducible refine LeO.bind ?_ (fun _ => ?_))
      | exact ih0 _ _ _
      | exact LeO.none _
      | refine LeO.ite ?_ ?_
      | refine LeO.bind ?_ (fun _ => ?_)
theorem chip_shaped.mono : ∀ a0 a1 k, LeO (chip_shaped.f k a0 a1) (chip_shaped.f (k + 1) a0 a1) := by
  intro a0 a1 k
  have ih0 := chip_shaped.mono_l k
  unfold chip_shaped.f
  repeat' first
      | (with_reducible exact ih0 _ _ _)
      | (with_reducible exact LeO.refl _)
      | (with_reducible exact LeO.none _)
      | (with_reducible refine LeO.ite ?_ ?_)
      | (with_reducible refine LeO.bind ?_ (fun _ => ?_))
      | exact ih0 _ _ _
      | exact LeO.none _
      | refine LeO.ite ?_ ?_
      | refine LeO.bind ?_ (fun _ => ?_)
set_option maxHeartbeats 8000000 in
set_option maxRecDepth 100000 in
theorem chip_shaped.calls (k : Nat) (a0 : Int) (a1 : Int) (r : Int) (w : World) (h : chip_shaped.f k a0 a1 = some r) :
    Calls Try.prog 36 #[.int .i64 a0, .int .i64 a1] w fun e w' => e = .returned (.int .i64 r) ∧ Drawn0 w w' := by
  have H : (if (Go.bits .and .i64 a0 4) = 0 then (chip_shaped.j0 k a0 a1 (wrap64 (31 - (Int.tmod a1 32)))) else (chip_shaped.j0 k a0 a1 (Int.tmod a1 32))) = some r := h
  clear h
  have HC3 := Aside0.mk H
  clear H
  go_enter Try.func36, Try.ntmps36
  go_upto_if 10 with (fail)
  go_cut [5] (fun v5 wc => ∃ (kq : Nat) (x5_2 : Int), v5 = .int .i64 x5_2 ∧ Aside0 (chip_shaped.j0 kq a0 a1 x5_2 = some r) ∧ Aside0 (kq ≤ k) ∧ Drawn0 w wc)
  case first =>
    have H := HC3.out
    clear HC3
    by_cases c4 : (Go.bits .and .i64 a0 4) = 0
    · rw [if_pos c4] at H
      have c4b0 : ((Go.bits .and .i64 a0 4) == 0) = true := beq_iff_eq.mpr c4
      have c4b1 : ((Go.bits .and .i64 a0 4) != 0) = false := bne_eq_false_iff_eq.mpr c4
      clear c4
      (first | rw [c4b0] | (simp only [i64_w, i32_w]; rw [c4b0]) | skip)
      have H' := Aside0.mk H
      clear H
      go_wp2
      go_meet
      case rel => exact ⟨_, (wrap64 (31 - (Int.tmod a1 32))), (by first | rfl | (simp; done) | (simp [*]; done)), H', ⟨by first | omega | exact Nat.le_refl _⟩, by repeat (first | exact Drawn0.refl _ | apply Drawn0.step)⟩
    · rw [if_neg c4] at H
      have c4b0 : ((Go.bits .and .i64 a0 4) == 0) = false := beq_eq_false_iff_ne.mpr c4
      have c4b1 : ((Go.bits .and .i64 a0 4) != 0) = true := bne_iff_ne.mpr c4
      (first | rw [c4b0] | (simp only [i64_w, i32_w]; rw [c4b0]) | skip)
      have H' := Aside0.mk H
      clear H
      go_wp2
      go_meet
      case rel => exact ⟨_, (Int.tmod a1 32), (by first | rfl | (simp; done) | (simp [*]; done)), H', ⟨by first | omega | exact Nat.le_refl _⟩, by repeat (first | exact Drawn0.refl _ | apply Drawn0.step)⟩
  case rest =>
    clear HC3
    try clear p2
    try clear c3
    try clear c4
    try clear c4b0
    try clear c4b1
    obtain ⟨kq, x5_2, rfl, HA, HJ2, ⟨mc2, rfl⟩⟩ := hcut
    cases kq with
    | zero => exact absurd HA.out (by simp [chip_shaped.j0])
    | succ kj2 =>
      have H := HA.out
      clear HA
      simp only [chip_shaped.j0] at H
      by_cases c5 : a1 < 32
      · rw [if_pos c5] at H
        have c5b0 : decide (a1 < 32) = true := decide_eq_true c5
        clear c5
        obtain rfl := Option.some.inj H
        go_wp2
        go_ret
        exact ⟨by first | rfl | (simp; done) | (simp [*]; done), by repeat (first | exact Drawn0.refl _ | apply Drawn0.step)⟩
      · rw [if_neg c5] at H
        have c5b0 : decide (a1 < 32) = false := decide_eq_false c5
        clear c5
        by_cases c6 : (Go.bits .and .i64 a0 8) = 0
        · rw [if_pos c6] at H
          have c6b0 : ((Go.bits .and .i64 a0 8) == 0) = true := beq_iff_eq.mpr c6
          have c6b1 : ((Go.bits .and .i64 a0 8) != 0) = false := bne_eq_false_iff_eq.mpr c6
          clear c6
          obtain rfl := Option.some.inj H
          go_wp2
          go_ret
          exact ⟨by first | rfl | (simp; done) | (simp [*]; done), by repeat (first | exact Drawn0.refl _ | apply Drawn0.step)⟩
        · rw [if_neg c6] at H
          have c6b0 : ((Go.bits .and .i64 a0 8) == 0) = false := beq_eq_false_iff_ne.mpr c6
          have c6b1 : ((Go.bits .and .i64 a0 8) != 0) = true := bne_iff_ne.mpr c6
          by_cases c7 : (Go.bits .and .i64 a0 1) = 0
          · rw [if_pos c7] at H
            have c7b0 : ((Go.bits .and .i64 a0 1) == 0) = true := beq_iff_eq.mpr c7
            have c7b1 : ((Go.bits .and .i64 a0 1) != 0) = false := bne_eq_false_iff_eq.mpr c7
            clear c7
            by_cases c8 : (Go.bits .and .i64 a0 2) = 0
            · rw [if_pos c8] at H
              have c8b0 : ((Go.bits .and .i64 a0 2) == 0) = true := beq_iff_eq.mpr c8
              have c8b1 : ((Go.bits .and .i64 a0 2) != 0) = false := bne_eq_false_iff_eq.mpr c8
              clear c8
              obtain rfl := Option.some.inj H
              go_wp2
              go_ret
              exact ⟨by first | rfl | (simp; done) | (simp [*]; done), by repeat (first | exact Drawn0.refl _ | apply Drawn0.step)⟩
            · rw [if_neg c8] at H
              have c8b0 : ((Go.bits .and .i64 a0 2) == 0) = false := beq_eq_false_iff_ne.mpr c8
              have c8b1 : ((Go.bits .and .i64 a0 2) != 0) = true := bne_iff_ne.mpr c8
              obtain rfl := Option.some.inj H
              go_wp2
              go_ret
              exact ⟨by first | rfl | (simp; done) | (simp [*]; done), by repeat (first | exact Drawn0.refl _ | apply Drawn0.step)⟩
          · rw [if_neg c7] at H
            have c7b0 : ((Go.bits .and .i64 a0 1) == 0) = false := beq_eq_false_iff_ne.mpr c7
            have c7b1 : ((Go.bits .and .i64 a0 1) != 0) = true := bne_iff_ne.mpr c7
            by_cases c9 : (((Go.bits .and .i64 a0 4) != 0) != ((Go.bits .and .i64 a0 2) != 0)) = true
            · rw [if_pos c9] at H
              have c9b0 : (((Go.bits .and .i64 a0 4) != 0) != ((Go.bits .and .i64 a0 2) != 0)) = true := c9
              (try (have c9b1 : decide (((Go.bits .and .i64 a0 4) != 0) = ((Go.bits .and .i64 a0 2) != 0)) = false := by simpa using c9))
              (try (have c9b2 : (((Go.bits .and .i64 a0 4) != 0) == ((Go.bits .and .i64 a0 2) != 0)) = false := by simpa using c9))
              (try (have c9b3 : ¬ (((Go.bits .and .i64 a0 4) != 0) = ((Go.bits .and .i64 a0 2) != 0)) := by simpa using c9))
              clear c9
              obtain rfl := Option.some.inj H
              go_wp2
              go_ret
              exact ⟨by first | rfl | (simp; done) | (simp [*]; done), by repeat (first | exact Drawn0.refl _ | apply Drawn0.step)⟩
            · rw [if_neg c9] at H
              have c9b0 : (((Go.bits .and .i64 a0 4) != 0) != ((Go.bits .and .i64 a0 2) != 0)) = false := by simpa using c9
              (try (have c9b1 : decide (((Go.bits .and .i64 a0 4) != 0) = ((Go.bits .and .i64 a0 2) != 0)) = true := by simpa using c9))
              (try (have c9b2 : (((Go.bits .and .i64 a0 4) != 0) == ((Go.bits .and .i64 a0 2) != 0)) = true := by simpa using c9))
              clear c9
              obtain rfl := Option.some.inj H
              go_wp2
              go_ret
              exact ⟨by first | rfl | (simp; done) | (simp [*]; done), by repeat (first | exact Drawn0.refl _ | apply Drawn0.step)⟩

end Go.Proofs.Ytfpgidflaaefeaa.PG

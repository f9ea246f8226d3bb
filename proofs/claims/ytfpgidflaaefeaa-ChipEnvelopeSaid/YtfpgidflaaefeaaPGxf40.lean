/- Written by a program of this session (wip/tools/xprint.py, over the functions of the kit's print): functions of the given program as Lean functions, each with its contract, or a law's row; no condition. -/
import Derived.Test.YtfpgidflaaefeaaPGx0
namespace Go.Proofs.Ytfpgidflaaefeaa.PG
open Go.RowKit Go.Proofs.YtfpgidflaaefeaaW.PrintWords Go.Proofs.YtfpgidflaaefeaaW.PrintLast Go.Proofs.YtfpgidflaaefeaaW.PrintMore
attribute [local go_sem] max2_int min2_int max_two min_two max_three min_three max_four min_four   -- for this text's walks alone
set_option linter.unusedVariables false
set_option linter.unusedSimpArgs false

/-! ### orchestrionref15_Value: function 40 -/
mutual
def orchestrionref15_Value.j0 : Nat → Int → Bool → Bool → Bool → Bool → Int → Option (Int)
  | 0, _, _, _, _, _, _ => none
  | k + 1, x1, x5, x6, x7, x8, x9 => if x1 < 32 then (some x9) else (if x8 = true then (if x5 = true then (orchestrionref15_Value.j1 k x5 x6 x9 (x7 != x6)) else (orchestrionref15_Value.j1 k x5 x6 x9 false)) else (some 0))
def orchestrionref15_Value.j1 : Nat → Bool → Bool → Int → Bool → Option (Int)
  | 0, _, _, _, _ => none
  | k + 1, x5, x6, x9, x38 => if x38 = true then (some 31) else (if x5 = true then (some 0) else (if x6 = true then (some (wrap64 (31 - x9))) else (some x9)))
end
def orchestrionref15_Value.f (k : Nat) (a0 : Int) (a1 : Int) : Option (Int) := if (Int.tmod (wrap64 (Int.tdiv a0 4)) 2) = 1 then (orchestrionref15_Value.j0 k a1 ((Int.tmod a0 2) == 1) ((Int.tmod (wrap64 (Int.tdiv a0 2)) 2) == 1) ((Int.tmod (wrap64 (Int.tdiv a0 4)) 2) == 1) ((Int.tmod (wrap64 (Int.tdiv a0 8)) 2) == 1) (Int.tmod a1 32)) else (orchestrionref15_Value.j0 k a1 ((Int.tmod a0 2) == 1) ((Int.tmod (wrap64 (Int.tdiv a0 2)) 2) == 1) ((Int.tmod (wrap64 (Int.tdiv a0 4)) 2) == 1) ((Int.tmod (wrap64 (Int.tdiv a0 8)) 2) == 1) (wrap64 (31 - (Int.tmod a1 32))))
theorem orchestrionref15_Value.mono_l : ∀ k, (∀ y0 y1 y2 y3 y4 y5, LeO (orchestrionref15_Value.j0 k y0 y1 y2 y3 y4 y5) (orchestrionref15_Value.j0 (k + 1) y0 y1 y2 y3 y4 y5)) ∧ (∀ y0 y1 y2 y3, LeO (orchestrionref15_Value.j1 k y0 y1 y2 y3) (orchestrionref15_Value.j1 (k + 1) y0 y1 y2 y3))
  | 0 => ⟨fun _ _ _ _ _ _ r h => by simp [orchestrionref15_Value.j0] at h, fun _ _ _ _ r h => by simp [orchestrionref15_Value.j1] at h⟩
  | k + 1 => by
    obtain ⟨ih0, ih1⟩ := orchestrionref15_Value.mono_l k
    refine ⟨?_, ?_⟩
    · intro y0 y1 y2 y3 y4 y5
      unfold orchestrionref15_Value.j0
      repeat' first
      | (with_reducible exact ih0 _ _ _ _ _ _)
      | (with_reducible exact ih1 _ _ _ _)
      | (with_reducible exact LeO.refl _)
      | (with_reducible exact LeO.none _)
      | (with_reducible refine LeO.ite ?_ ?_)
      | (with_reducible refine LeO.bind ?_ (fun _ => ?_))
      | exact ih0 _ _ _ _ _ _
      | exact ih1 _ _ _ _
      | exact LeO.none _
      | refine LeO.ite ?_ ?_
      | refine LeO.bind ?_ (fun _ => ?_)
    · intro y0 y1 y2 y3
      unfold orchestrionref15_Value.j1
      repeat' first
      | (with_reducible exact ih0 _ _ _ _ _ _)
      | (with_reducible exact ih1 _ _ _ _)
      | (with_reducible exact LeO.refl _)
      | (with_reducible exact LeO.none _)
      | (with_reducible refine LeO.ite ?_ ?_)
      | (with_reducible refine LeO.bind ?_ (fun _ => ?_))
      | exact ih0 _ _ _ _ _ _
      | exact ih1 _ _ _ _
      | exact LeO.none _
      | refine LeO.ite ?_ ?_
      | refine LeO.bind ?_ (fun _ => ?_)
theorem orchestrionref15_Value.mono : ∀ a0 a1 k, LeO (orchestrionref15_Value.f k a0 a1) (orchestrionref15_Value.f (k + 1) a0 a1) := by
  intro a0 a1 k
  obtain ⟨ih0, ih1⟩ := orchestrionref15_Value.mono_l k
  unfold orchestrionref15_Value.f
  repeat' first
      | (with_reducible exact ih0 _ _ _ _ _ _)
      | (with_reducible exact ih1 _ _ _ _)
      | (with_reducible exact LeO.refl _)
      | (with_reducible exact LeO.none _)
      | (with_reducible refine LeO.ite ?_ ?_)
      | (with_reducible refine LeO.bind ?_ (fun _ => ?_))
      | exact ih0 _ _ _ _ _ _
      | exact ih1 _ _ _ _
      | exact LeO.none _
      | refine LeO.ite ?_ ?_
      | refine LeO.bind ?_ (fun _ => ?_)
set_option maxHeartbeats 8000000 in
set_option maxRecDepth 100000 in
theorem orchestrionref15_Value.calls (k : Nat) (a0 : Int) (a1 : Int) (r : Int) (w : World) (h : orchestrionref15_Value.f k a0 a1 = some r) :
    Calls Try.prog 40 #[.int .i64 a0, .int .i64 a1] w fun e w' => e = .returned (.int .i64 r) ∧ Drawn0 w w' := by
  have H : (if (Int.tmod (wrap64 (Int.tdiv a0 4)) 2) = 1 then (orchestrionref15_Value.j0 k a1 ((Int.tmod a0 2) == 1) ((Int.tmod (wrap64 (Int.tdiv a0 2)) 2) == 1) ((Int.tmod (wrap64 (Int.tdiv a0 4)) 2) == 1) ((Int.tmod (wrap64 (Int.tdiv a0 8)) 2) == 1) (Int.tmod a1 32)) else (orchestrionref15_Value.j0 k a1 ((Int.tmod a0 2) == 1) ((Int.tmod (wrap64 (Int.tdiv a0 2)) 2) == 1) ((Int.tmod (wrap64 (Int.tdiv a0 4)) 2) == 1) ((Int.tmod (wrap64 (Int.tdiv a0 8)) 2) == 1) (wrap64 (31 - (Int.tmod a1 32))))) = some r := h
  clear h
  have HC3 := Aside0.mk H
  clear H
  go_enter Try.func40, Try.ntmps40
  go_upto_if 28 with (fail)
  go_cut [7, 9] (fun v7 v9 wc => ∃ (kq : Nat) (x7_2 : Bool) (x9_2 : Int), v7 = .bool x7_2 ∧ v9 = .int .i64 x9_2 ∧ Aside0 (orchestrionref15_Value.j0 kq a1 ((Int.tmod a0 2) == 1) ((Int.tmod (wrap64 (Int.tdiv a0 2)) 2) == 1) x7_2 ((Int.tmod (wrap64 (Int.tdiv a0 8)) 2) == 1) x9_2 = some r) ∧ Aside0 (kq ≤ k) ∧ Drawn0 w wc)
  case first =>
    have H := HC3.out
    clear HC3
    by_cases c4 : (Int.tmod (wrap64 (Int.tdiv a0 4)) 2) = 1
    · rw [if_pos c4] at H
      have c4b0 : ((Int.tmod (wrap64 (Int.tdiv a0 4)) 2) == 1) = true := beq_iff_eq.mpr c4
      have c4b1 : ((Int.tmod (wrap64 (Int.tdiv a0 4)) 2) != 1) = false := bne_eq_false_iff_eq.mpr c4
      clear c4
      (first | rw [c4b0] | (simp only [i64_w, i32_w]; rw [c4b0]) | skip)
      simp only [c4b0] at H
      have H' := Aside0.mk H
      clear H
      go_wp2
      go_meet
      case rel => exact ⟨_, true, (Int.tmod a1 32), (by first | rfl | (simp; done) | (simp [*]; done)), (by first | rfl | (simp; done) | (simp [*]; done)), H', ⟨by first | omega | exact Nat.le_refl _⟩, by repeat (first | exact Drawn0.refl _ | apply Drawn0.step)⟩
    · rw [if_neg c4] at H
      have c4b0 : ((Int.tmod (wrap64 (Int.tdiv a0 4)) 2) == 1) = false := beq_eq_false_iff_ne.mpr c4
      have c4b1 : ((Int.tmod (wrap64 (Int.tdiv a0 4)) 2) != 1) = true := bne_iff_ne.mpr c4
      (first | rw [c4b0] | (simp only [i64_w, i32_w]; rw [c4b0]) | skip)
      simp only [c4b0] at H
      have H' := Aside0.mk H
      clear H
      go_wp2
      go_meet
      case rel => exact ⟨_, false, (wrap64 (31 - (Int.tmod a1 32))), (by first | rfl | (simp; done) | (simp [*]; done)), (by first | rfl | (simp; done) | (simp [*]; done)), H', ⟨by first | omega | exact Nat.le_refl _⟩, by repeat (first | exact Drawn0.refl _ | apply Drawn0.step)⟩
  case rest =>
    clear HC3
    try clear p2
    try clear c4
    try clear c4b0
    try clear c4b1
    obtain ⟨kq, x7_2, x9_2, rfl, rfl, HA, HJ2, ⟨mc2, rfl⟩⟩ := hcut
    cases kq with
    | zero => exact absurd HA.out (by simp [orchestrionref15_Value.j0])
    | succ kj2 =>
      have H := HA.out
      clear HA
      simp only [orchestrionref15_Value.j0] at H
      by_cases c5 : a1 < 32
      · rw [if_pos c5] at H
        have c5b0 : decide (a1 < 32) = true := decide_eq_true c5
        clear c5
        obtain rfl := Option.some.inj H
        go_wp2
        go_ret
        exact ⟨by first | rfl | (simp; done) | (simp [*]; done), by repeat (first | exact Drawn0.refl _ | apply Drawn0.step)⟩
      · rw [if_neg c5] at H
        have c5b0 : decide (a1 < 32) = false := decide_eq_false c5
        clear c5
        by_cases c6 : ((Int.tmod (wrap64 (Int.tdiv a0 8)) 2) == 1) = true
        · rw [if_pos c6] at H
          have c6b0 : ((Int.tmod (wrap64 (Int.tdiv a0 8)) 2) == 1) = true := c6
          (try (have c6b1 : decide ((Int.tmod (wrap64 (Int.tdiv a0 8)) 2) = 1) = true := by simpa using c6))
          (try (have c6b2 : ((Int.tmod (wrap64 (Int.tdiv a0 8)) 2) == 1) = true := by simpa using c6))
          clear c6
          have HC7 := Aside0.mk H
          clear H
          go_upto_region 9 with (fail)
          go_cut [5, 38] (fun v5 v38 wc => ∃ (kq : Nat) (x5_6 : Bool) (x38_6 : Bool), v5 = .bool x5_6 ∧ v38 = .bool x38_6 ∧ Aside0 (orchestrionref15_Value.j1 kq x5_6 ((Int.tmod (wrap64 (Int.tdiv a0 2)) 2) == 1) x9_2 x38_6 = some r) ∧ Aside0 (kq ≤ kj2) ∧ Drawn0 w wc)
          case first =>
            have H := HC7.out
            clear HC7
            by_cases c8 : ((Int.tmod a0 2) == 1) = true
            · rw [if_pos c8] at H
              have c8b0 : ((Int.tmod a0 2) == 1) = true := c8
              (try (have c8b1 : decide ((Int.tmod a0 2) = 1) = true := by simpa using c8))
              (try (have c8b2 : ((Int.tmod a0 2) == 1) = true := by simpa using c8))
              clear c8
              (first | rw [c8b0] | (simp only [i64_w, i32_w]; rw [c8b0]) | skip)
              simp only [c8b0] at H
              have H' := Aside0.mk H
              clear H
              go_wp2
              go_meet
              case rel => exact ⟨_, true, ((x7_2 != ((Int.tmod (wrap64 (Int.tdiv a0 2)) 2) == 1))), (by first | rfl | (simp; done) | (simp [*]; done)), (by first | rfl | (simp; done) | (simp [*]; done)), H', ⟨by have := HJ2.out; first | omega | exact Nat.le_refl _⟩, by repeat (first | exact Drawn0.refl _ | apply Drawn0.step)⟩
            · rw [if_neg c8] at H
              have c8b0 : ((Int.tmod a0 2) == 1) = false := by simpa using c8
              (try (have c8b1 : decide ((Int.tmod a0 2) = 1) = false := by simpa using c8))
              (try (have c8b2 : ((Int.tmod a0 2) == 1) = false := by simpa using c8))
              (try (have c8b3 : ¬ ((Int.tmod a0 2) = 1) := by simpa using c8))
              clear c8
              (first | rw [c8b0] | (simp only [i64_w, i32_w]; rw [c8b0]) | skip)
              simp only [c8b0] at H
              have H' := Aside0.mk H
              clear H
              go_wp2
              go_meet
              case rel => exact ⟨_, false, (false), (by first | rfl | (simp; done) | (simp [*]; done)), (by first | rfl | (simp; done) | (simp [*]; done)), H', ⟨by have := HJ2.out; first | omega | exact Nat.le_refl _⟩, by repeat (first | exact Drawn0.refl _ | apply Drawn0.step)⟩
          case rest =>
            clear HC7
            try clear c2
            try clear p2
            try clear c4
            try clear c4b0
            try clear c4b1
            try clear c5
            try clear c5b0
            try clear c6
            try clear c6b0
            try clear c6b1
            try clear c6b2
            try clear p6
            try clear c8
            try clear c8b0
            try clear c8b1
            try clear c8b2
            try clear p2
            obtain ⟨kq, x5_6, x38_6, rfl, rfl, HA, HJ6, ⟨mc6, rfl⟩⟩ := hcut
            cases kq with
            | zero => exact absurd HA.out (by simp [orchestrionref15_Value.j1])
            | succ kj6 =>
              have H := HA.out
              clear HA
              simp only [orchestrionref15_Value.j1] at H
              by_cases c9 : x38_6 = true
              · subst c9
                have H1 : (some 31) = some r := by rw [if_pos rfl] at H; exact H
                clear H
                have H := H1
                clear H1
                obtain rfl := Option.some.inj H
                go_wp2
                go_ret
                exact ⟨by first | rfl | (simp; done) | (simp [*]; done), by repeat (first | exact Drawn0.refl _ | apply Drawn0.step)⟩
              · replace c9 := Bool.eq_false_iff.mpr c9
                subst c9
                have H1 : (if x5_6 = true then (some 0) else (if ((Int.tmod (wrap64 (Int.tdiv a0 2)) 2) == 1) = true then (some (wrap64 (31 - x9_2))) else (some x9_2))) = some r := by rw [if_neg (show ¬ (false = true) by decide)] at H; exact H
                clear H
                have H := H1
                clear H1
                by_cases c10 : x5_6 = true
                · rw [if_pos c10] at H
                  have c10b0 : x5_6 = true := c10
                  (try (have c10b1 : decide ((Int.tmod a0 2) = 1) = true := by simpa using c10))
                  (try (have c10b2 : x5_6 = true := by simpa using c10))
                  clear c10
                  subst c10b0
                  obtain rfl := Option.some.inj H
                  go_wp2
                  go_ret
                  exact ⟨by first | rfl | (simp; done) | (simp [*]; done), by repeat (first | exact Drawn0.refl _ | apply Drawn0.step)⟩
                · rw [if_neg c10] at H
                  have c10b0 : x5_6 = false := by simpa using c10
                  (try (have c10b1 : decide ((Int.tmod a0 2) = 1) = false := by simpa using c10))
                  (try (have c10b2 : x5_6 = false := by simpa using c10))
                  (try (have c10b3 : ¬ ((Int.tmod a0 2) = 1) := by simpa using c10))
                  clear c10
                  subst c10b0
                  by_cases c11 : ((Int.tmod (wrap64 (Int.tdiv a0 2)) 2) == 1) = true
                  · rw [if_pos c11] at H
                    have c11b0 : ((Int.tmod (wrap64 (Int.tdiv a0 2)) 2) == 1) = true := c11
                    (try (have c11b1 : decide ((Int.tmod (wrap64 (Int.tdiv a0 2)) 2) = 1) = true := by simpa using c11))
                    (try (have c11b2 : ((Int.tmod (wrap64 (Int.tdiv a0 2)) 2) == 1) = true := by simpa using c11))
                    clear c11
                    obtain rfl := Option.some.inj H
                    go_wp2
                    go_ret
                    exact ⟨by first | rfl | (simp; done) | (simp [*]; done), by repeat (first | exact Drawn0.refl _ | apply Drawn0.step)⟩
                  · rw [if_neg c11] at H
                    have c11b0 : ((Int.tmod (wrap64 (Int.tdiv a0 2)) 2) == 1) = false := by simpa using c11
                    (try (have c11b1 : decide ((Int.tmod (wrap64 (Int.tdiv a0 2)) 2) = 1) = false := by simpa using c11))
                    (try (have c11b2 : ((Int.tmod (wrap64 (Int.tdiv a0 2)) 2) == 1) = false := by simpa using c11))
                    (try (have c11b3 : ¬ ((Int.tmod (wrap64 (Int.tdiv a0 2)) 2) = 1) := by simpa using c11))
                    clear c11
                    obtain rfl := Option.some.inj H
                    go_wp2
                    go_ret
                    exact ⟨by first | rfl | (simp; done) | (simp [*]; done), by repeat (first | exact Drawn0.refl _ | apply Drawn0.step)⟩
        · rw [if_neg c6] at H
          have c6b0 : ((Int.tmod (wrap64 (Int.tdiv a0 8)) 2) == 1) = false := by simpa using c6
          (try (have c6b1 : decide ((Int.tmod (wrap64 (Int.tdiv a0 8)) 2) = 1) = false := by simpa using c6))
          (try (have c6b2 : ((Int.tmod (wrap64 (Int.tdiv a0 8)) 2) == 1) = false := by simpa using c6))
          (try (have c6b3 : ¬ ((Int.tmod (wrap64 (Int.tdiv a0 8)) 2) = 1) := by simpa using c6))
          clear c6
          obtain rfl := Option.some.inj H
          go_wp2
          go_ret
          exact ⟨by first | rfl | (simp; done) | (simp [*]; done), by repeat (first | exact Drawn0.refl _ | apply Drawn0.step)⟩

end Go.Proofs.Ytfpgidflaaefeaa.PG

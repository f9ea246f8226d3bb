/- Written by a program of this session (wip/tools/xprint.py, over the functions of the kit's print): functions of the given program as Lean functions, each with its contract, or a law's row; no condition. -/
import Derived.Test.YtkmcegpajfnndaaPGx0
import Derived.Test.YtkmcegpajfnndaaPGxf22
import Derived.Test.YtkmcegpajfnndaaPGxf41
namespace Go.Proofs.Ytkmcegpajfnndaa.PG
open Go.RowKit Go.Proofs.YtkmcegpajfnndaaW.PrintWords Go.Proofs.YtkmcegpajfnndaaW.PrintLast Go.Proofs.YtkmcegpajfnndaaW.PrintMore
attribute [local go_sem] max2_int min2_int max_two min_two max_three min_three max_four min_four   -- for this text's walks alone
set_option linter.unusedVariables false
set_option linter.unusedSimpArgs false

/-! ### orchestrionref13_Weight: function 23 -/
mutual
def orchestrionref13_Weight.j0 : Nat → Int → Int → Int → Bool → Option (Int)
  | 0, _, _, _, _ => none
  | k + 1, x0, x1, x2, x8 => if x8 = true then (some 1) else (if x0 = 1 then (orchestrionref13_Weight.j1 k x0 x1 x2 (x1 == 0)) else (orchestrionref13_Weight.j1 k x0 x1 x2 false))
def orchestrionref13_Weight.j1 : Nat → Int → Int → Int → Bool → Option (Int)
  | 0, _, _, _, _ => none
  | k + 1, x0, x1, x2, x15 => if x15 = true then (some (wrap64 (256 - x2))) else (if x0 = 1 then (orchestrionref13_Weight.j2 k x0 x1 x2 (x1 == 1)) else (orchestrionref13_Weight.j2 k x0 x1 x2 false))
def orchestrionref13_Weight.j2 : Nat → Int → Int → Int → Bool → Option (Int)
  | 0, _, _, _, _ => none
  | k + 1, x0, x1, x2, x24 => if x24 = true then (some x2) else (if x0 = 2 then ((orchestrionref13_cubic.f x1 x2).bind fun t101 => (some t101)) else (if x0 = 3 then (orchestrionref13_Weight.j3 k x0 x1 x2 (x1 == (-1))) else (orchestrionref13_Weight.j3 k x0 x1 x2 false)))
def orchestrionref13_Weight.j3 : Nat → Int → Int → Int → Bool → Option (Int)
  | 0, _, _, _, _ => none
  | k + 1, x0, x1, x2, x38 => if x38 = true then (some (wrap64 ((wrap64 (256 - x2)) * (wrap64 (256 - x2))))) else (if x0 = 3 then (orchestrionref13_Weight.j4 k x0 x1 x2 (x1 == 0)) else (orchestrionref13_Weight.j4 k x0 x1 x2 false))
def orchestrionref13_Weight.j4 : Nat → Int → Int → Int → Bool → Option (Int)
  | 0, _, _, _, _ => none
  | k + 1, x0, x1, x2, x50 => if x50 = true then (some (wrap64 (65536 + (wrap64 ((wrap64 (2 * x2)) * (wrap64 (256 - x2))))))) else (if x0 = 3 then (orchestrionref13_Weight.j5 k x0 x1 x2 (x1 == 1)) else (orchestrionref13_Weight.j5 k x0 x1 x2 false))
def orchestrionref13_Weight.j5 : Nat → Int → Int → Int → Bool → Option (Int)
  | 0, _, _, _, _ => none
  | k + 1, x0, x1, x2, x63 => if x63 = true then (some (wrap64 (x2 * x2))) else (if x0 = 4 then (if (wrap64 ((wrap64 (256 * x1)) - x2)) < 0 then (if (wrap64 (-(wrap64 ((wrap64 (256 * x1)) - x2)))) < 1024 then (some (wrap64 ((wrap64 (1024 - (wrap64 (-(wrap64 ((wrap64 (256 * x1)) - x2)))))) * (wrap64 (1024 - (wrap64 (-(wrap64 ((wrap64 (256 * x1)) - x2))))))))) else (some 0)) else (if (wrap64 ((wrap64 (256 * x1)) - x2)) < 1024 then (some (wrap64 ((wrap64 (1024 - (wrap64 ((wrap64 (256 * x1)) - x2)))) * (wrap64 (1024 - (wrap64 ((wrap64 (256 * x1)) - x2))))))) else (some 0))) else (some 0))
end
def orchestrionref13_Weight.f (k : Nat) (a0 : Int) (a1 : Int) (a2 : Int) : Option (Int) := if a0 = 0 then (orchestrionref13_Weight.j0 k a0 a1 a2 (a1 == 0)) else (orchestrionref13_Weight.j0 k a0 a1 a2 false)
theorem orchestrionref13_Weight.mono_l : ∀ k, (∀ y0 y1 y2 y3, LeO (orchestrionref13_Weight.j0 k y0 y1 y2 y3) (orchestrionref13_Weight.j0 (k + 1) y0 y1 y2 y3)) ∧ (∀ y0 y1 y2 y3, LeO (orchestrionref13_Weight.j1 k y0 y1 y2 y3) (orchestrionref13_Weight.j1 (k + 1) y0 y1 y2 y3)) ∧ (∀ y0 y1 y2 y3, LeO (orchestrionref13_Weight.j2 k y0 y1 y2 y3) (orchestrionref13_Weight.j2 (k + 1) y0 y1 y2 y3)) ∧ (∀ y0 y1 y2 y3, LeO (orchestrionref13_Weight.j3 k y0 y1 y2 y3) (orchestrionref13_Weight.j3 (k + 1) y0 y1 y2 y3)) ∧ (∀ y0 y1 y2 y3, LeO (orchestrionref13_Weight.j4 k y0 y1 y2 y3) (orchestrionref13_Weight.j4 (k + 1) y0 y1 y2 y3)) ∧ (∀ y0 y1 y2 y3, LeO (orchestrionref13_Weight.j5 k y0 y1 y2 y3) (orchestrionref13_Weight.j5 (k + 1) y0 y1 y2 y3))
  | 0 => ⟨fun _ _ _ _ r h => by simp [orchestrionref13_Weight.j0] at h, fun _ _ _ _ r h => by simp [orchestrionref13_Weight.j1] at h, fun _ _ _ _ r h => by simp [orchestrionref13_Weight.j2] at h, fun _ _ _ _ r h => by simp [orchestrionref13_Weight.j3] at h, fun _ _ _ _ r h => by simp [orchestrionref13_Weight.j4] at h, fun _ _ _ _ r h => by simp [orchestrionref13_Weight.j5] at h⟩
  | k + 1 => by
    obtain ⟨ih0, ih1, ih2, ih3, ih4, ih5⟩ := orchestrionref13_Weight.mono_l k
    refine ⟨?_, ?_, ?_, ?_, ?_, ?_⟩
    · intro y0 y1 y2 y3
      unfold orchestrionref13_Weight.j0
      repeat' first
      | (with_reducible exact ih0 _ _ _ _)
      | (with_reducible exact ih1 _ _ _ _)
      | (with_reducible exact ih2 _ _ _ _)
      | (with_reducible exact ih3 _ _ _ _)
      | (with_reducible exact ih4 _ _ _ _)
      | (with_reducible exact ih5 _ _ _ _)
      | (with_reducible exact LeO.refl _)
      | (with_reducible exact LeO.none _)
      | (with_reducible refine LeO.ite ?_ ?_)
      | (with_reducible refine LeO.bind ?_ (fun _ => ?_))
      | exact ih0 _ _ _ _
      | exact ih1 _ _ _ _
      | exact ih2 _ _ _ _
      | exact ih3 _ _ _ _
      | exact ih4 _ _ _ _
      | exact ih5 _ _ _ _
      | exact LeO.none _
      | refine LeO.ite ?_ ?_
      | refine LeO.bind ?_ (fun _ => ?_)
    · intro y0 y1 y2 y3
      unfold orchestrionref13_Weight.j1
      repeat' first
      | (with_reducible exact ih0 _ _ _ _)
      | (with_reducible exact ih1 _ _ _ _)
      | (with_reducible exact ih2 _ _ _ _)
      | (with_reducible exact ih3 _ _ _ _)
      | (with_reducible exact ih4 _ _ _ _)
      | (with_reducible exact ih5 _ _ _ _)
      | (with_reducible exact LeO.refl _)
      | (with_reducible exact LeO.none _)
      | (with_reducible refine LeO.ite ?_ ?_)
      | (with_reducible refine LeO.bind ?_ (fun _ => ?_))
      | exact ih0 _ _ _ _
      | exact ih1 _ _ _ _
      | exact ih2 _ _ _ _
      | exact ih3 _ _ _ _
      | exact ih4 _ _ _ _
      | exact ih5 _ _ _ _
      | exact LeO.none _
      | refine LeO.ite ?_ ?_
      | refine LeO.bind ?_ (fun _ => ?_)
    · intro y0 y1 y2 y3
      unfold orchestrionref13_Weight.j2
      repeat' first
      | (with_reducible exact ih0 _ _ _ _)
      | (with_reducible exact ih1 _ _ _ _)
      | (with_reducible exact ih2 _ _ _ _)
      | (with_reducible exact ih3 _ _ _ _)
      | (with_reducible exact ih4 _ _ _ _)
      | (with_reducible exact ih5 _ _ _ _)
      | (with_reducible exact LeO.refl _)
      | (with_reducible exact LeO.none _)
      | (with_reducible refine LeO.ite ?_ ?_)
      | (with_reducible refine LeO.bind ?_ (fun _ => ?_))
      | exact ih0 _ _ _ _
      | exact ih1 _ _ _ _
      | exact ih2 _ _ _ _
      | exact ih3 _ _ _ _
      | exact ih4 _ _ _ _
      | exact ih5 _ _ _ _
      | exact LeO.none _
      | refine LeO.ite ?_ ?_
      | refine LeO.bind ?_ (fun _ => ?_)
    · intro y0 y1 y2 y3
      unfold orchestrionref13_Weight.j3
      repeat' first
      | (with_reducible exact ih0 _ _ _ _)
      | (with_reducible exact ih1 _ _ _ _)
      | (with_reducible exact ih2 _ _ _ _)
      | (with_reducible exact ih3 _ _ _ _)
      | (with_reducible exact ih4 _ _ _ _)
      | (with_reducible exact ih5 _ _ _ _)
      | (with_reducible exact LeO.refl _)
      | (with_reducible exact LeO.none _)
      | (with_reducible refine LeO.ite ?_ ?_)
      | (with_reducible refine LeO.bind ?_ (fun _ => ?_))
      | exact ih0 _ _ _ _
      | exact ih1 _ _ _ _
      | exact ih2 _ _ _ _
      | exact ih3 _ _ _ _
      | exact ih4 _ _ _ _
      | exact ih5 _ _ _ _
      | exact LeO.none _
      | refine LeO.ite ?_ ?_
      | refine LeO.bind ?_ (fun _ => ?_)
    · intro y0 y1 y2 y3
      unfold orchestrionref13_Weight.j4
      repeat' first
      | (with_reducible exact ih0 _ _ _ _)
      | (with_reducible exact ih1 _ _ _ _)
      | (with_reducible exact ih2 _ _ _ _)
      | (with_reducible exact ih3 _ _ _ _)
      | (with_reducible exact ih4 _ _ _ _)
      | (with_reducible exact ih5 _ _ _ _)
      | (with_reducible exact LeO.refl _)
      | (with_reducible exact LeO.none _)
      | (with_reducible refine LeO.ite ?_ ?_)
      | (with_reducible refine LeO.bind ?_ (fun _ => ?_))
      | exact ih0 _ _ _ _
      | exact ih1 _ _ _ _
      | exact ih2 _ _ _ _
      | exact ih3 _ _ _ _
      | exact ih4 _ _ _ _
      | exact ih5 _ _ _ _
      | exact LeO.none _
      | refine LeO.ite ?_ ?_
      | refine LeO.bind ?_ (fun _ => ?_)
    · intro y0 y1 y2 y3
      unfold orchestrionref13_Weight.j5
      repeat' first
      | (with_reducible exact ih0 _ _ _ _)
      | (with_reducible exact ih1 _ _ _ _)
      | (with_reducible exact ih2 _ _ _ _)
      | (with_reducible exact ih3 _ _ _ _)
      | (with_reducible exact ih4 _ _ _ _)
      | (with_reducible exact ih5 _ _ _ _)
      | (with_reducible exact LeO.refl _)
      | (with_reducible exact LeO.none _)
      | (with_reducible refine LeO.ite ?_ ?_)
      | (with_reducible refine LeO.bind ?_ (fun _ => ?_))
      | exact ih0 _ _ _ _
      | exact ih1 _ _ _ _
      | exact ih2 _ _ _ _
      | exact ih3 _ _ _ _
      | exact ih4 _ _ _ _
      | exact ih5 _ _ _ _
      | exact LeO.none _
      | refine LeO.ite ?_ ?_
      | refine LeO.bind ?_ (fun _ => ?_)
theorem orchestrionref13_Weight.mono : ∀ a0 a1 a2 k, LeO (orchestrionref13_Weight.f k a0 a1 a2) (orchestrionref13_Weight.f (k + 1) a0 a1 a2) := by
  intro a0 a1 a2 k
  obtain ⟨ih0, ih1, ih2, ih3, ih4, ih5⟩ := orchestrionref13_Weight.mono_l k
  unfold orchestrionref13_Weight.f
  repeat' first
      | (with_reducible exact ih0 _ _ _ _)
      | (with_reducible exact ih1 _ _ _ _)
      | (with_reducible exact ih2 _ _ _ _)
      | (with_reducible exact ih3 _ _ _ _)
      | (with_reducible exact ih4 _ _ _ _)
      | (with_reducible exact ih5 _ _ _ _)
      | (with_reducible exact LeO.refl _)
      | (with_reducible exact LeO.none _)
      | (with_reducible refine LeO.ite ?_ ?_)
      | (with_reducible refine LeO.bind ?_ (fun _ => ?_))
      | exact ih0 _ _ _ _
      | exact ih1 _ _ _ _
      | exact ih2 _ _ _ _
      | exact ih3 _ _ _ _
      | exact ih4 _ _ _ _
      | exact ih5 _ _ _ _
      | exact LeO.none _
      | refine LeO.ite ?_ ?_
      | refine LeO.bind ?_ (fun _ => ?_)
set_option maxHeartbeats 8000000 in
set_option maxRecDepth 100000 in
theorem orchestrionref13_Weight.calls (k : Nat) (a0 : Int) (a1 : Int) (a2 : Int) (r : Int) (w : World) (h : orchestrionref13_Weight.f k a0 a1 a2 = some r) :
    Calls Try.prog 23 #[.int .i64 a0, .int .i64 a1, .int .i64 a2] w fun e w' => e = .returned (.int .i64 r) ∧ Drawn0 w w' := by
  have H : (if a0 = 0 then (orchestrionref13_Weight.j0 k a0 a1 a2 (a1 == 0)) else (orchestrionref13_Weight.j0 k a0 a1 a2 false)) = some r := h
  clear h
  have HC4 := Aside0.mk H
  clear H
  go_enter Try.func23, Try.ntmps23
  go_upto_region 1 with (fail)
  go_cut [8] (fun v8 wc => ∃ (kq : Nat) (x8_3 : Bool), v8 = .bool x8_3 ∧ Aside0 (orchestrionref13_Weight.j0 kq a0 a1 a2 x8_3 = some r) ∧ Aside0 (kq ≤ k) ∧ Drawn0 w wc)
  case first =>
    have H := HC4.out
    clear HC4
    by_cases c5 : a0 = 0
    · rw [if_pos c5] at H
      have c5b0 : (a0 == 0) = true := beq_iff_eq.mpr c5
      have c5b1 : (a0 != 0) = false := bne_eq_false_iff_eq.mpr c5
      clear c5
      (first | rw [c5b0] | (simp only [i64_w, i32_w]; rw [c5b0]) | skip)
      have H' := Aside0.mk H
      clear H
      go_wp2
      go_meet
      case rel => exact ⟨_, ((a1 == 0)), (by first | rfl | (simp; done) | (simp [*]; done)), H', ⟨by first | omega | exact Nat.le_refl _⟩, by repeat (first | exact Drawn0.refl _ | apply Drawn0.step)⟩
    · rw [if_neg c5] at H
      have c5b0 : (a0 == 0) = false := beq_eq_false_iff_ne.mpr c5
      have c5b1 : (a0 != 0) = true := bne_iff_ne.mpr c5
      (first | rw [c5b0] | (simp only [i64_w, i32_w]; rw [c5b0]) | skip)
      have H' := Aside0.mk H
      clear H
      go_wp2
      go_meet
      case rel => exact ⟨_, (false), (by first | rfl | (simp; done) | (simp [*]; done)), H', ⟨by first | omega | exact Nat.le_refl _⟩, by repeat (first | exact Drawn0.refl _ | apply Drawn0.step)⟩
  case rest =>
    clear HC4
    try clear c2
    try clear p2
    try clear c5
    try clear c5b0
    try clear c5b1
    obtain ⟨kq, x8_3, rfl, HA, HJ3, ⟨mc3, rfl⟩⟩ := hcut
    cases kq with
    | zero => exact absurd HA.out (by simp [orchestrionref13_Weight.j0])
    | succ kj3 =>
      have H := HA.out
      clear HA
      simp only [orchestrionref13_Weight.j0] at H
      by_cases c6 : x8_3 = true
      · subst c6
        have H1 : (some 1) = some r := by rw [if_pos rfl] at H; exact H
        clear H
        have H := H1
        clear H1
        obtain rfl := Option.some.inj H
        go_wp2
        go_ret
        exact ⟨by first | rfl | (simp; done) | (simp [*]; done), by repeat (first | exact Drawn0.refl _ | apply Drawn0.step)⟩
      · replace c6 := Bool.eq_false_iff.mpr c6
        subst c6
        have H1 : (if a0 = 1 then (orchestrionref13_Weight.j1 kj3 a0 a1 a2 (a1 == 0)) else (orchestrionref13_Weight.j1 kj3 a0 a1 a2 false)) = some r := by rw [if_neg (show ¬ (false = true) by decide)] at H; exact H
        clear H
        have H := H1
        clear H1
        have HC7 := Aside0.mk H
        clear H
        go_upto_region 3 with (fail)
        go_cut [15] (fun v15 wc => ∃ (kq : Nat) (x15_6 : Bool), v15 = .bool x15_6 ∧ Aside0 (orchestrionref13_Weight.j1 kq a0 a1 a2 x15_6 = some r) ∧ Aside0 (kq ≤ kj3) ∧ Drawn0 w wc)
        case first =>
          have H := HC7.out
          clear HC7
          by_cases c8 : a0 = 1
          · rw [if_pos c8] at H
            have c8b0 : (a0 == 1) = true := beq_iff_eq.mpr c8
            have c8b1 : (a0 != 1) = false := bne_eq_false_iff_eq.mpr c8
            clear c8
            (first | rw [c8b0] | (simp only [i64_w, i32_w]; rw [c8b0]) | skip)
            have H' := Aside0.mk H
            clear H
            go_wp2
            go_meet
            case rel => exact ⟨_, ((a1 == 0)), (by first | rfl | (simp; done) | (simp [*]; done)), H', ⟨by have := HJ3.out; first | omega | exact Nat.le_refl _⟩, by repeat (first | exact Drawn0.refl _ | apply Drawn0.step)⟩
          · rw [if_neg c8] at H
            have c8b0 : (a0 == 1) = false := beq_eq_false_iff_ne.mpr c8
            have c8b1 : (a0 != 1) = true := bne_iff_ne.mpr c8
            (first | rw [c8b0] | (simp only [i64_w, i32_w]; rw [c8b0]) | skip)
            have H' := Aside0.mk H
            clear H
            go_wp2
            go_meet
            case rel => exact ⟨_, (false), (by first | rfl | (simp; done) | (simp [*]; done)), H', ⟨by have := HJ3.out; first | omega | exact Nat.le_refl _⟩, by repeat (first | exact Drawn0.refl _ | apply Drawn0.step)⟩
        case rest =>
          clear HC7
          try clear c2
          try clear p2
          try clear c3
          try clear c5
          try clear c5b0
          try clear c5b1
          try clear c6
          try clear c8
          try clear c8b0
          try clear c8b1
          try clear p2
          obtain ⟨kq, x15_6, rfl, HA, HJ6, ⟨mc6, rfl⟩⟩ := hcut
          cases kq with
          | zero => exact absurd HA.out (by simp [orchestrionref13_Weight.j1])
          | succ kj6 =>
            have H := HA.out
            clear HA
            simp only [orchestrionref13_Weight.j1] at H
            by_cases c9 : x15_6 = true
            · subst c9
              have H1 : (some (wrap64 (256 - a2))) = some r := by rw [if_pos rfl] at H; exact H
              clear H
              have H := H1
              clear H1
              obtain rfl := Option.some.inj H
              go_wp2
              go_ret
              exact ⟨by first | rfl | (simp; done) | (simp [*]; done), by repeat (first | exact Drawn0.refl _ | apply Drawn0.step)⟩
            · replace c9 := Bool.eq_false_iff.mpr c9
              subst c9
              have H1 : (if a0 = 1 then (orchestrionref13_Weight.j2 kj6 a0 a1 a2 (a1 == 1)) else (orchestrionref13_Weight.j2 kj6 a0 a1 a2 false)) = some r := by rw [if_neg (show ¬ (false = true) by decide)] at H; exact H
              clear H
              have H := H1
              clear H1
              have HC10 := Aside0.mk H
              clear H
              go_upto_region 5 with (fail)
              go_cut [24] (fun v24 wc => ∃ (kq : Nat) (x24_9 : Bool), v24 = .bool x24_9 ∧ Aside0 (orchestrionref13_Weight.j2 kq a0 a1 a2 x24_9 = some r) ∧ Aside0 (kq ≤ kj6) ∧ Drawn0 w wc)
              case first =>
                have H := HC10.out
                clear HC10
                by_cases c11 : a0 = 1
                · rw [if_pos c11] at H
                  have c11b0 : (a0 == 1) = true := beq_iff_eq.mpr c11
                  have c11b1 : (a0 != 1) = false := bne_eq_false_iff_eq.mpr c11
                  clear c11
                  (first | rw [c11b0] | (simp only [i64_w, i32_w]; rw [c11b0]) | skip)
                  have H' := Aside0.mk H
                  clear H
                  go_wp2
                  go_meet
                  case rel => exact ⟨_, ((a1 == 1)), (by first | rfl | (simp; done) | (simp [*]; done)), H', ⟨by have := HJ3.out; have := HJ6.out; first | omega | exact Nat.le_refl _⟩, by repeat (first | exact Drawn0.refl _ | apply Drawn0.step)⟩
                · rw [if_neg c11] at H
                  have c11b0 : (a0 == 1) = false := beq_eq_false_iff_ne.mpr c11
                  have c11b1 : (a0 != 1) = true := bne_iff_ne.mpr c11
                  (first | rw [c11b0] | (simp only [i64_w, i32_w]; rw [c11b0]) | skip)
                  have H' := Aside0.mk H
                  clear H
                  go_wp2
                  go_meet
                  case rel => exact ⟨_, (false), (by first | rfl | (simp; done) | (simp [*]; done)), H', ⟨by have := HJ3.out; have := HJ6.out; first | omega | exact Nat.le_refl _⟩, by repeat (first | exact Drawn0.refl _ | apply Drawn0.step)⟩
              case rest =>
                clear HC10
                try clear c1
                try clear c2
                try clear p2
                try clear c3
                try clear c5
                try clear c5b0
                try clear c5b1
                try clear c6
                try clear p6
                try clear c8
                try clear c8b0
                try clear c8b1
                try clear c9
                try clear c11
                try clear c11b0
                try clear c11b1
                try clear p2
                obtain ⟨kq, x24_9, rfl, HA, HJ9, ⟨mc9, rfl⟩⟩ := hcut
                cases kq with
                | zero => exact absurd HA.out (by simp [orchestrionref13_Weight.j2])
                | succ kj9 =>
                  have H := HA.out
                  clear HA
                  simp only [orchestrionref13_Weight.j2] at H
                  by_cases c12 : x24_9 = true
                  · subst c12
                    have H1 : (some a2) = some r := by rw [if_pos rfl] at H; exact H
                    clear H
                    have H := H1
                    clear H1
                    obtain rfl := Option.some.inj H
                    go_wp2
                    go_ret
                    exact ⟨by first | rfl | (simp; done) | (simp [*]; done), by repeat (first | exact Drawn0.refl _ | apply Drawn0.step)⟩
                  · replace c12 := Bool.eq_false_iff.mpr c12
                    subst c12
                    have H1 : (if a0 = 2 then ((orchestrionref13_cubic.f a1 a2).bind fun t101 => (some t101)) else (if a0 = 3 then (orchestrionref13_Weight.j3 kj9 a0 a1 a2 (a1 == (-1))) else (orchestrionref13_Weight.j3 kj9 a0 a1 a2 false))) = some r := by rw [if_neg (show ¬ (false = true) by decide)] at H; exact H
                    clear H
                    have H := H1
                    clear H1
                    by_cases c13 : a0 = 2
                    · rw [if_pos c13] at H
                      have c13b0 : (a0 == 2) = true := beq_iff_eq.mpr c13
                      have c13b1 : (a0 != 2) = false := bne_eq_false_iff_eq.mpr c13
                      clear c13
                      replace H := Option.bind_eq_some_iff.mp H
                      obtain ⟨t101, A140, H⟩ := H
                      replace H : (some t101) = some r := H
                      have A14 := Aside0.mk A140
                      clear A140
                      obtain rfl := Option.some.inj H
                      go_wp2_with (first | ((with_reducible refine gate_callee (f := 41) rfl ?_); refine goesL_ (some 37) rfl rfl Try.func41 (by kernel_rfl) rfl #[.int .i64 a1, .int .i64 a2] rfl (by (try simp only [List.map_toArray, List.map_cons, List.map_nil]); first | done | rfl | (simp only [List.length_drop, List.length_take]; rfl)) ?_; (with_reducible refine (orchestrionref13_cubic.calls a1 a2 t101 _ A14.out).mono ?_); rintro e w' ⟨rfl, ⟨nd, rfl⟩⟩; refine ⟨_, rfl, ?_⟩))
                      go_ret
                      exact ⟨by first | rfl | (simp; done) | (simp [*]; done), by repeat (first | exact Drawn0.refl _ | apply Drawn0.step)⟩
                    · rw [if_neg c13] at H
                      have c13b0 : (a0 == 2) = false := beq_eq_false_iff_ne.mpr c13
                      have c13b1 : (a0 != 2) = true := bne_iff_ne.mpr c13
                      have HC15 := Aside0.mk H
                      clear H
                      go_upto_region 9 with (fail)
                      go_cut [38] (fun v38 wc => ∃ (kq : Nat) (x38_14 : Bool), v38 = .bool x38_14 ∧ Aside0 (orchestrionref13_Weight.j3 kq a0 a1 a2 x38_14 = some r) ∧ Aside0 (kq ≤ kj9) ∧ Drawn0 w wc)
                      case first =>
                        have H := HC15.out
                        clear HC15
                        by_cases c16 : a0 = 3
                        · rw [if_pos c16] at H
                          have c16b0 : (a0 == 3) = true := beq_iff_eq.mpr c16
                          have c16b1 : (a0 != 3) = false := bne_eq_false_iff_eq.mpr c16
                          clear c16
                          (first | rw [c16b0] | (simp only [i64_w, i32_w]; rw [c16b0]) | skip)
                          have H' := Aside0.mk H
                          clear H
                          go_wp2
                          go_meet
                          case rel => exact ⟨_, ((a1 == (-1))), (by first | rfl | (simp; done) | (simp [*]; done)), H', ⟨by have := HJ3.out; have := HJ6.out; have := HJ9.out; first | omega | exact Nat.le_refl _⟩, by repeat (first | exact Drawn0.refl _ | apply Drawn0.step)⟩
                        · rw [if_neg c16] at H
                          have c16b0 : (a0 == 3) = false := beq_eq_false_iff_ne.mpr c16
                          have c16b1 : (a0 != 3) = true := bne_iff_ne.mpr c16
                          (first | rw [c16b0] | (simp only [i64_w, i32_w]; rw [c16b0]) | skip)
                          have H' := Aside0.mk H
                          clear H
                          go_wp2
                          go_meet
                          case rel => exact ⟨_, (false), (by first | rfl | (simp; done) | (simp [*]; done)), H', ⟨by have := HJ3.out; have := HJ6.out; have := HJ9.out; first | omega | exact Nat.le_refl _⟩, by repeat (first | exact Drawn0.refl _ | apply Drawn0.step)⟩
                      case rest =>
                        clear HC15
                        try clear c1
                        try clear c2
                        try clear p2
                        try clear c3
                        try clear c4
                        try clear c5
                        try clear c5b0
                        try clear c5b1
                        try clear c6
                        try clear p6
                        try clear c8
                        try clear c8b0
                        try clear c8b1
                        try clear c9
                        try clear c11
                        try clear c11b0
                        try clear c11b1
                        try clear c12
                        try clear c13
                        try clear c13b0
                        try clear c13b1
                        try clear c16
                        try clear c16b0
                        try clear c16b1
                        try clear p2
                        try clear p6
                        obtain ⟨kq, x38_14, rfl, HA, HJ14, ⟨mc14, rfl⟩⟩ := hcut
                        cases kq with
                        | zero => exact absurd HA.out (by simp [orchestrionref13_Weight.j3])
                        | succ kj14 =>
                          have H := HA.out
                          clear HA
                          simp only [orchestrionref13_Weight.j3] at H
                          by_cases c17 : x38_14 = true
                          · subst c17
                            have H1 : (some (wrap64 ((wrap64 (256 - a2)) * (wrap64 (256 - a2))))) = some r := by rw [if_pos rfl] at H; exact H
                            clear H
                            have H := H1
                            clear H1
                            obtain rfl := Option.some.inj H
                            go_wp2
                            go_ret
                            exact ⟨by first | rfl | (simp; done) | (simp [*]; done), by repeat (first | exact Drawn0.refl _ | apply Drawn0.step)⟩
                          · replace c17 := Bool.eq_false_iff.mpr c17
                            subst c17
                            have H1 : (if a0 = 3 then (orchestrionref13_Weight.j4 kj14 a0 a1 a2 (a1 == 0)) else (orchestrionref13_Weight.j4 kj14 a0 a1 a2 false)) = some r := by rw [if_neg (show ¬ (false = true) by decide)] at H; exact H
                            clear H
                            have H := H1
                            clear H1
                            have HC18 := Aside0.mk H
                            clear H
                            go_upto_region 11 with (fail)
                            go_cut [50] (fun v50 wc => ∃ (kq : Nat) (x50_17 : Bool), v50 = .bool x50_17 ∧ Aside0 (orchestrionref13_Weight.j4 kq a0 a1 a2 x50_17 = some r) ∧ Aside0 (kq ≤ kj14) ∧ Drawn0 w wc)
                            case first =>
                              have H := HC18.out
                              clear HC18
                              by_cases c19 : a0 = 3
                              · rw [if_pos c19] at H
                                have c19b0 : (a0 == 3) = true := beq_iff_eq.mpr c19
                                have c19b1 : (a0 != 3) = false := bne_eq_false_iff_eq.mpr c19
                                clear c19
                                (first | rw [c19b0] | (simp only [i64_w, i32_w]; rw [c19b0]) | skip)
                                have H' := Aside0.mk H
                                clear H
                                go_wp2
                                go_meet
                                case rel => exact ⟨_, ((a1 == 0)), (by first | rfl | (simp; done) | (simp [*]; done)), H', ⟨by have := HJ3.out; have := HJ6.out; have := HJ9.out; have := HJ14.out; first | omega | exact Nat.le_refl _⟩, by repeat (first | exact Drawn0.refl _ | apply Drawn0.step)⟩
                              · rw [if_neg c19] at H
                                have c19b0 : (a0 == 3) = false := beq_eq_false_iff_ne.mpr c19
                                have c19b1 : (a0 != 3) = true := bne_iff_ne.mpr c19
                                (first | rw [c19b0] | (simp only [i64_w, i32_w]; rw [c19b0]) | skip)
                                have H' := Aside0.mk H
                                clear H
                                go_wp2
                                go_meet
                                case rel => exact ⟨_, (false), (by first | rfl | (simp; done) | (simp [*]; done)), H', ⟨by have := HJ3.out; have := HJ6.out; have := HJ9.out; have := HJ14.out; first | omega | exact Nat.le_refl _⟩, by repeat (first | exact Drawn0.refl _ | apply Drawn0.step)⟩
                            case rest =>
                              clear HC18
                              try clear c1
                              try clear c2
                              try clear p2
                              try clear c3
                              try clear c4
                              try clear c5
                              try clear c5b0
                              try clear c5b1
                              try clear c6
                              try clear p6
                              try clear c8
                              try clear c8b0
                              try clear c8b1
                              try clear c9
                              try clear c11
                              try clear c11b0
                              try clear c11b1
                              try clear c12
                              try clear c13
                              try clear c13b0
                              try clear c13b1
                              try clear c14
                              try clear c16
                              try clear c16b0
                              try clear c16b1
                              try clear c17
                              try clear c19
                              try clear c19b0
                              try clear c19b1
                              try clear p2
                              try clear p6
                              obtain ⟨kq, x50_17, rfl, HA, HJ17, ⟨mc17, rfl⟩⟩ := hcut
                              cases kq with
                              | zero => exact absurd HA.out (by simp [orchestrionref13_Weight.j4])
                              | succ kj17 =>
                                have H := HA.out
                                clear HA
                                simp only [orchestrionref13_Weight.j4] at H
                                by_cases c20 : x50_17 = true
                                · subst c20
                                  have H1 : (some (wrap64 (65536 + (wrap64 ((wrap64 (2 * a2)) * (wrap64 (256 - a2))))))) = some r := by rw [if_pos rfl] at H; exact H
                                  clear H
                                  have H := H1
                                  clear H1
                                  obtain rfl := Option.some.inj H
                                  go_wp2
                                  go_ret
                                  exact ⟨by first | rfl | (simp; done) | (simp [*]; done), by repeat (first | exact Drawn0.refl _ | apply Drawn0.step)⟩
                                · replace c20 := Bool.eq_false_iff.mpr c20
                                  subst c20
                                  have H1 : (if a0 = 3 then (orchestrionref13_Weight.j5 kj17 a0 a1 a2 (a1 == 1)) else (orchestrionref13_Weight.j5 kj17 a0 a1 a2 false)) = some r := by rw [if_neg (show ¬ (false = true) by decide)] at H; exact H
                                  clear H
                                  have H := H1
                                  clear H1
                                  have HC21 := Aside0.mk H
                                  clear H
                                  go_upto_region 13 with (fail)
                                  go_cut [63] (fun v63 wc => ∃ (kq : Nat) (x63_20 : Bool), v63 = .bool x63_20 ∧ Aside0 (orchestrionref13_Weight.j5 kq a0 a1 a2 x63_20 = some r) ∧ Aside0 (kq ≤ kj17) ∧ Drawn0 w wc)
                                  case first =>
                                    have H := HC21.out
                                    clear HC21
                                    by_cases c22 : a0 = 3
                                    · rw [if_pos c22] at H
                                      have c22b0 : (a0 == 3) = true := beq_iff_eq.mpr c22
                                      have c22b1 : (a0 != 3) = false := bne_eq_false_iff_eq.mpr c22
                                      clear c22
                                      (first | rw [c22b0] | (simp only [i64_w, i32_w]; rw [c22b0]) | skip)
                                      have H' := Aside0.mk H
                                      clear H
                                      go_wp2
                                      go_meet
                                      case rel => exact ⟨_, ((a1 == 1)), (by first | rfl | (simp; done) | (simp [*]; done)), H', ⟨by have := HJ3.out; have := HJ6.out; have := HJ9.out; have := HJ14.out; have := HJ17.out; first | omega | exact Nat.le_refl _⟩, by repeat (first | exact Drawn0.refl _ | apply Drawn0.step)⟩
                                    · rw [if_neg c22] at H
                                      have c22b0 : (a0 == 3) = false := beq_eq_false_iff_ne.mpr c22
                                      have c22b1 : (a0 != 3) = true := bne_iff_ne.mpr c22
                                      (first | rw [c22b0] | (simp only [i64_w, i32_w]; rw [c22b0]) | skip)
                                      have H' := Aside0.mk H
                                      clear H
                                      go_wp2
                                      go_meet
                                      case rel => exact ⟨_, (false), (by first | rfl | (simp; done) | (simp [*]; done)), H', ⟨by have := HJ3.out; have := HJ6.out; have := HJ9.out; have := HJ14.out; have := HJ17.out; first | omega | exact Nat.le_refl _⟩, by repeat (first | exact Drawn0.refl _ | apply Drawn0.step)⟩
                                  case rest =>
                                    clear HC21
                                    try clear c1
                                    try clear c2
                                    try clear p2
                                    try clear c3
                                    try clear c4
                                    try clear c5
                                    try clear c5b0
                                    try clear c5b1
                                    try clear c6
                                    try clear p6
                                    try clear c8
                                    try clear c8b0
                                    try clear c8b1
                                    try clear c9
                                    try clear c11
                                    try clear c11b0
                                    try clear c11b1
                                    try clear c12
                                    try clear c13
                                    try clear c13b0
                                    try clear c13b1
                                    try clear c14
                                    try clear c16
                                    try clear c16b0
                                    try clear c16b1
                                    try clear c17
                                    try clear c19
                                    try clear c19b0
                                    try clear c19b1
                                    try clear c20
                                    try clear c22
                                    try clear c22b0
                                    try clear c22b1
                                    try clear p2
                                    try clear p6
                                    obtain ⟨kq, x63_20, rfl, HA, HJ20, ⟨mc20, rfl⟩⟩ := hcut
                                    cases kq with
                                    | zero => exact absurd HA.out (by simp [orchestrionref13_Weight.j5])
                                    | succ kj20 =>
                                      have H := HA.out
                                      clear HA
                                      simp only [orchestrionref13_Weight.j5] at H
                                      by_cases c23 : x63_20 = true
                                      · subst c23
                                        have H1 : (some (wrap64 (a2 * a2))) = some r := by rw [if_pos rfl] at H; exact H
                                        clear H
                                        have H := H1
                                        clear H1
                                        obtain rfl := Option.some.inj H
                                        go_wp2
                                        go_ret
                                        exact ⟨by first | rfl | (simp; done) | (simp [*]; done), by repeat (first | exact Drawn0.refl _ | apply Drawn0.step)⟩
                                      · replace c23 := Bool.eq_false_iff.mpr c23
                                        subst c23
                                        have H1 : (if a0 = 4 then (if (wrap64 ((wrap64 (256 * a1)) - a2)) < 0 then (if (wrap64 (-(wrap64 ((wrap64 (256 * a1)) - a2)))) < 1024 then (some (wrap64 ((wrap64 (1024 - (wrap64 (-(wrap64 ((wrap64 (256 * a1)) - a2)))))) * (wrap64 (1024 - (wrap64 (-(wrap64 ((wrap64 (256 * a1)) - a2))))))))) else (some 0)) else (if (wrap64 ((wrap64 (256 * a1)) - a2)) < 1024 then (some (wrap64 ((wrap64 (1024 - (wrap64 ((wrap64 (256 * a1)) - a2)))) * (wrap64 (1024 - (wrap64 ((wrap64 (256 * a1)) - a2))))))) else (some 0))) else (some 0)) = some r := by rw [if_neg (show ¬ (false = true) by decide)] at H; exact H
                                        clear H
                                        have H := H1
                                        clear H1
                                        by_cases c24 : a0 = 4
                                        · rw [if_pos c24] at H
                                          have c24b0 : (a0 == 4) = true := beq_iff_eq.mpr c24
                                          have c24b1 : (a0 != 4) = false := bne_eq_false_iff_eq.mpr c24
                                          clear c24
                                          by_cases c25 : (wrap64 ((wrap64 (256 * a1)) - a2)) < 0
                                          · rw [if_pos c25] at H
                                            have c25b0 : decide ((wrap64 ((wrap64 (256 * a1)) - a2)) < 0) = true := decide_eq_true c25
                                            clear c25
                                            by_cases c26 : (wrap64 (-(wrap64 ((wrap64 (256 * a1)) - a2)))) < 1024
                                            · rw [if_pos c26] at H
                                              have c26b0 : decide ((wrap64 (-(wrap64 ((wrap64 (256 * a1)) - a2)))) < 1024) = true := decide_eq_true c26
                                              clear c26
                                              obtain rfl := Option.some.inj H
                                              go_wp2
                                              go_ret
                                              exact ⟨by first | rfl | (simp; done) | (simp [*]; done), by repeat (first | exact Drawn0.refl _ | apply Drawn0.step)⟩
                                            · rw [if_neg c26] at H
                                              have c26b0 : decide ((wrap64 (-(wrap64 ((wrap64 (256 * a1)) - a2)))) < 1024) = false := decide_eq_false c26
                                              clear c26
                                              obtain rfl := Option.some.inj H
                                              go_wp2
                                              go_ret
                                              exact ⟨by first | rfl | (simp; done) | (simp [*]; done), by repeat (first | exact Drawn0.refl _ | apply Drawn0.step)⟩
                                          · rw [if_neg c25] at H
                                            have c25b0 : decide ((wrap64 ((wrap64 (256 * a1)) - a2)) < 0) = false := decide_eq_false c25
                                            clear c25
                                            by_cases c27 : (wrap64 ((wrap64 (256 * a1)) - a2)) < 1024
                                            · rw [if_pos c27] at H
                                              have c27b0 : decide ((wrap64 ((wrap64 (256 * a1)) - a2)) < 1024) = true := decide_eq_true c27
                                              clear c27
                                              obtain rfl := Option.some.inj H
                                              go_wp2
                                              go_ret
                                              exact ⟨by first | rfl | (simp; done) | (simp [*]; done), by repeat (first | exact Drawn0.refl _ | apply Drawn0.step)⟩
                                            · rw [if_neg c27] at H
                                              have c27b0 : decide ((wrap64 ((wrap64 (256 * a1)) - a2)) < 1024) = false := decide_eq_false c27
                                              clear c27
                                              obtain rfl := Option.some.inj H
                                              go_wp2
                                              go_ret
                                              exact ⟨by first | rfl | (simp; done) | (simp [*]; done), by repeat (first | exact Drawn0.refl _ | apply Drawn0.step)⟩
                                        · rw [if_neg c24] at H
                                          have c24b0 : (a0 == 4) = false := beq_eq_false_iff_ne.mpr c24
                                          have c24b1 : (a0 != 4) = true := bne_iff_ne.mpr c24
                                          obtain rfl := Option.some.inj H
                                          go_wp2
                                          go_ret
                                          exact ⟨by first | rfl | (simp; done) | (simp [*]; done), by repeat (first | exact Drawn0.refl _ | apply Drawn0.step)⟩

end Go.Proofs.Ytkmcegpajfnndaa.PG

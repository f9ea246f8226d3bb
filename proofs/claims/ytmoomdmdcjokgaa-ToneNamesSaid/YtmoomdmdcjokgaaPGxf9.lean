/- Written by a program of this session (wip/tools/xprint.py, over the functions of the kit's print): functions of the given program as Lean functions, each with its contract, or a law's row; no condition. -/
import Derived.Test.YtmoomdmdcjokgaaPGx0
import Derived.Test.YtmoomdmdcjokgaaPGxf33
import Derived.Test.YtmoomdmdcjokgaaPGxf34
namespace Go.Proofs.Ytmoomdmdcjokgaa.PG
open Go.RowKit Go.Proofs.YtmoomdmdcjokgaaW.PrintWords Go.Proofs.YtmoomdmdcjokgaaW.PrintLast Go.Proofs.YtmoomdmdcjokgaaW.PrintMore
attribute [local go_sem] max2_int min2_int max_two min_two max_three min_three max_four min_four   -- for this text's walks alone
set_option linter.unusedVariables false
set_option linter.unusedSimpArgs false

/-! ### tone_Exp: function 9 -/
def tone_Exp.f (k : Nat) (a0 : Int) : Option (Int) := (tone_in.f a0 (-7680) 7680).bind fun t101 => (if t101 = true then ((tone_power.f k (wrap64 (a0 - (wrap64 (768 * (wrap64 ((wrap64 (Int.tdiv (wrap64 (a0 + 7680)) 768)) - 10))))))).bind fun t102 => (if (wrap64 ((wrap64 (Int.tdiv (wrap64 (a0 + 7680)) 768)) - 10)) ≥ 0 then (if 0 ≤ (wrap64 ((wrap64 (Int.tdiv (wrap64 (a0 + 7680)) 768)) - 10)) then (some ((shl .i64 t102 (wrap64 ((wrap64 (Int.tdiv (wrap64 (a0 + 7680)) 768)) - 10))) / 16777216)) else (none)) else (if 0 ≤ (wrap64 (24 - (wrap64 ((wrap64 (Int.tdiv (wrap64 (a0 + 7680)) 768)) - 10)))) then (some (shr .i64 t102 (wrap64 (24 - (wrap64 ((wrap64 (Int.tdiv (wrap64 (a0 + 7680)) 768)) - 10)))))) else (none)))) else (some 0))
theorem tone_Exp.mono : ∀ a0 k, LeO (tone_Exp.f k a0) (tone_Exp.f (k + 1) a0) := by
  intro a0 k
  unfold tone_Exp.f
  repeat' first
      | (with_reducible exact tone_power.mono _ _)
      | (with_reducible exact LeO.refl _)
      | (with_reducible exact LeO.none _)
      | (with_reducible refine LeO.ite ?_ ?_)
      | (with_reducible refine LeO.bind ?_ (fun _ => ?_))
      | exact tone_power.mono _ _
      | exact LeO.none _
      | refine LeO.ite ?_ ?_
      | refine LeO.bind ?_ (fun _ => ?_)
set_option maxHeartbeats 8000000 in
set_option maxRecDepth 100000 in
theorem tone_Exp.calls (k : Nat) (a0 : Int) (r : Int) (w : World) (h : tone_Exp.f k a0 = some r) :
    Calls Try.prog 9 #[.int .i64 a0] w fun e w' => e = .returned (.int .i64 r) ∧ Drawn0 w w' := by
  have H : ((tone_in.f a0 (-7680) 7680).bind fun t101 => (if t101 = true then ((tone_power.f k (wrap64 (a0 - (wrap64 (768 * (wrap64 ((wrap64 (Int.tdiv (wrap64 (a0 + 7680)) 768)) - 10))))))).bind fun t102 => (if (wrap64 ((wrap64 (Int.tdiv (wrap64 (a0 + 7680)) 768)) - 10)) ≥ 0 then (if 0 ≤ (wrap64 ((wrap64 (Int.tdiv (wrap64 (a0 + 7680)) 768)) - 10)) then (some ((shl .i64 t102 (wrap64 ((wrap64 (Int.tdiv (wrap64 (a0 + 7680)) 768)) - 10))) / 16777216)) else (none)) else (if 0 ≤ (wrap64 (24 - (wrap64 ((wrap64 (Int.tdiv (wrap64 (a0 + 7680)) 768)) - 10)))) then (some (shr .i64 t102 (wrap64 (24 - (wrap64 ((wrap64 (Int.tdiv (wrap64 (a0 + 7680)) 768)) - 10)))))) else (none)))) else (some 0))) = some r := h
  clear h
  replace H := Option.bind_eq_some_iff.mp H
  obtain ⟨t101, A20, H⟩ := H
  replace H : (if t101 = true then ((tone_power.f k (wrap64 (a0 - (wrap64 (768 * (wrap64 ((wrap64 (Int.tdiv (wrap64 (a0 + 7680)) 768)) - 10))))))).bind fun t102 => (if (wrap64 ((wrap64 (Int.tdiv (wrap64 (a0 + 7680)) 768)) - 10)) ≥ 0 then (if 0 ≤ (wrap64 ((wrap64 (Int.tdiv (wrap64 (a0 + 7680)) 768)) - 10)) then (some ((shl .i64 t102 (wrap64 ((wrap64 (Int.tdiv (wrap64 (a0 + 7680)) 768)) - 10))) / 16777216)) else (none)) else (if 0 ≤ (wrap64 (24 - (wrap64 ((wrap64 (Int.tdiv (wrap64 (a0 + 7680)) 768)) - 10)))) then (some (shr .i64 t102 (wrap64 (24 - (wrap64 ((wrap64 (Int.tdiv (wrap64 (a0 + 7680)) 768)) - 10)))))) else (none)))) else (some 0)) = some r := H
  have A2 := Aside0.mk A20
  clear A20
  by_cases c3 : t101 = true
  · subst c3
    have H1 : ((tone_power.f k (wrap64 (a0 - (wrap64 (768 * (wrap64 ((wrap64 (Int.tdiv (wrap64 (a0 + 7680)) 768)) - 10))))))).bind fun t102 => (if (wrap64 ((wrap64 (Int.tdiv (wrap64 (a0 + 7680)) 768)) - 10)) ≥ 0 then (if 0 ≤ (wrap64 ((wrap64 (Int.tdiv (wrap64 (a0 + 7680)) 768)) - 10)) then (some ((shl .i64 t102 (wrap64 ((wrap64 (Int.tdiv (wrap64 (a0 + 7680)) 768)) - 10))) / 16777216)) else (none)) else (if 0 ≤ (wrap64 (24 - (wrap64 ((wrap64 (Int.tdiv (wrap64 (a0 + 7680)) 768)) - 10)))) then (some (shr .i64 t102 (wrap64 (24 - (wrap64 ((wrap64 (Int.tdiv (wrap64 (a0 + 7680)) 768)) - 10)))))) else (none)))) = some r := by rw [if_pos rfl] at H; exact H
    clear H
    have H := H1
    clear H1
    replace H := Option.bind_eq_some_iff.mp H
    obtain ⟨t102, A40, H⟩ := H
    replace H : (if (wrap64 ((wrap64 (Int.tdiv (wrap64 (a0 + 7680)) 768)) - 10)) ≥ 0 then (if 0 ≤ (wrap64 ((wrap64 (Int.tdiv (wrap64 (a0 + 7680)) 768)) - 10)) then (some ((shl .i64 t102 (wrap64 ((wrap64 (Int.tdiv (wrap64 (a0 + 7680)) 768)) - 10))) / 16777216)) else (none)) else (if 0 ≤ (wrap64 (24 - (wrap64 ((wrap64 (Int.tdiv (wrap64 (a0 + 7680)) 768)) - 10)))) then (some (shr .i64 t102 (wrap64 (24 - (wrap64 ((wrap64 (Int.tdiv (wrap64 (a0 + 7680)) 768)) - 10)))))) else (none))) = some r := H
    have A4 := Aside0.mk A40
    clear A40
    by_cases c5 : (wrap64 ((wrap64 (Int.tdiv (wrap64 (a0 + 7680)) 768)) - 10)) ≥ 0
    · rw [if_pos c5] at H
      have c5b0 : decide (0 ≤ (wrap64 ((wrap64 (Int.tdiv (wrap64 (a0 + 7680)) 768)) - 10))) = true := decide_eq_true c5
      clear c5
      obtain ⟨ji6, hji6⟩ : ∃ j_ : Int, (wrap64 ((wrap64 (Int.tdiv (wrap64 (a0 + 7680)) 768)) - 10)) = j_ := ⟨_, rfl⟩
      replace H : (if 0 ≤ (ji6) then (some ((shl .i64 t102 (ji6)) / 16777216)) else (none)) = some r := by first | (rw [hji6] at H; exact H) | (simp only [hji6] at H ⊢; exact H)
      (try rw [hji6] at c5b0)
      (try rw [hji6] at A2)
      (try rw [hji6] at A4)
      have hji6w : (IntKind.i64.wrap ((wrap64 (Int.tdiv (wrap64 (a0 + 7680)) 768)) - 10)) = ji6 := (i64_w _).trans hji6
      by_cases c7 : 0 ≤ (ji6)
      · rw [if_pos c7] at H
        have c7b0 := eq_true c7
        have c7b1 : decide (0 ≤ (ji6)) = true := decide_eq_true c7
        clear c7
        obtain ⟨ji8, hji8⟩ : ∃ j_ : Int, (shl .i64 t102 (ji6)) = j_ := ⟨_, rfl⟩
        replace H : (some ((ji8) / 16777216)) = some r := by first | (rw [hji8] at H; exact H) | (simp only [hji8] at H ⊢; exact H)
        (try rw [hji8] at A2)
        (try rw [hji8] at A4)
        have hji8_ : (IntKind.i64.wrap (t102 * 2 ^ min (ji6).toNat 64)) = ji8 := hji8
        have hji8z : (ji6) ≤ 64 → (IntKind.i64.wrap (t102 * 2 ^ (ji6).toNat)) = ji8 := shl_small hji8
        have hji8y : (wrap64 (t102 * 2 ^ min (ji6).toNat 64)) = ji8 := (i64_w _).symm.trans hji8_
        have hji8x : (ji6) ≤ 64 → (wrap64 (t102 * 2 ^ (ji6).toNat)) = ji8 := fun h_ => (i64_w _).symm.trans (hji8z h_)
        obtain rfl := Option.some.inj H
        go_enter Try.func9, Try.ntmps9
        go_wp2_with (first | ((with_reducible refine gate_callee (f := 33) rfl ?_); refine goesL_ (some 6) rfl rfl Try.func33 (by kernel_rfl) rfl #[.int .i64 a0, .int .i64 (-7680), .int .i64 7680] rfl (by (try simp only [List.map_toArray, List.map_cons, List.map_nil]); first | done | rfl | (simp only [List.length_drop, List.length_take]; rfl)) ?_; (with_reducible refine (tone_in.calls a0 (-7680) 7680 true _ A2.out).mono ?_); rintro e w' ⟨rfl, ⟨nd, rfl⟩⟩; refine ⟨_, rfl, ?_⟩) | ((with_reducible refine gate_callee (f := 34) rfl ?_); refine goesL_ (some 16) rfl rfl Try.func34 (by kernel_rfl) rfl #[.int .i64 (wrap64 (a0 - (wrap64 (768 * (ji6)))))] rfl (by (try simp only [List.map_toArray, List.map_cons, List.map_nil]); first | done | (simp only [hji6]; rfl) | rfl | (simp only [List.length_drop, List.length_take]; rfl)) ?_; (with_reducible refine (tone_power.calls k (wrap64 (a0 - (wrap64 (768 * (ji6))))) t102 _ A4.out).mono ?_); rintro e w' ⟨rfl, ⟨nd, rfl⟩⟩; refine ⟨_, rfl, ?_⟩))
        go_ret
        exact ⟨by first | rfl | (simp; done) | (simp only [← hji6, ← hji8] <;> (first | rfl | simp)) | (simp [*]; done), by repeat (first | exact Drawn0.refl _ | apply Drawn0.step)⟩
      · rw [if_neg c7] at H
        exact absurd H (by simp)
    · rw [if_neg c5] at H
      have c5b0 : decide (0 ≤ (wrap64 ((wrap64 (Int.tdiv (wrap64 (a0 + 7680)) 768)) - 10))) = false := decide_eq_false c5
      clear c5
      obtain ⟨ji9, hji9⟩ : ∃ j_ : Int, (wrap64 (24 - (wrap64 ((wrap64 (Int.tdiv (wrap64 (a0 + 7680)) 768)) - 10)))) = j_ := ⟨_, rfl⟩
      replace H : (if 0 ≤ (ji9) then (some (shr .i64 t102 (ji9))) else (none)) = some r := by first | (rw [hji9] at H; exact H) | (simp only [hji9] at H ⊢; exact H)
      (try rw [hji9] at A2)
      (try rw [hji9] at A4)
      have hji9w : (IntKind.i64.wrap (24 - (wrap64 ((wrap64 (Int.tdiv (wrap64 (a0 + 7680)) 768)) - 10)))) = ji9 := (i64_w _).trans hji9
      by_cases c10 : 0 ≤ (ji9)
      · rw [if_pos c10] at H
        have c10b0 := eq_true c10
        have c10b1 : decide (0 ≤ (ji9)) = true := decide_eq_true c10
        clear c10
        obtain ⟨ji11, hji11⟩ : ∃ j_ : Int, (shr .i64 t102 (ji9)) = j_ := ⟨_, rfl⟩
        replace H : (some ji11) = some r := by first | (rw [hji11] at H; exact H) | (simp only [hji11] at H ⊢; exact H)
        (try rw [hji11] at A2)
        (try rw [hji11] at A4)
        have hji11_ : (t102 / 2 ^ min (ji9).toNat 64) = ji11 := hji11
        have hji11z : (ji9) ≤ 64 → (t102 / 2 ^ (ji9).toNat) = ji11 := shr_small hji11
        obtain rfl := Option.some.inj H
        go_enter Try.func9, Try.ntmps9
        go_wp2_with (first | ((with_reducible refine gate_callee (f := 33) rfl ?_); refine goesL_ (some 6) rfl rfl Try.func33 (by kernel_rfl) rfl #[.int .i64 a0, .int .i64 (-7680), .int .i64 7680] rfl (by (try simp only [List.map_toArray, List.map_cons, List.map_nil]); first | done | rfl | (simp only [List.length_drop, List.length_take]; rfl)) ?_; (with_reducible refine (tone_in.calls a0 (-7680) 7680 true _ A2.out).mono ?_); rintro e w' ⟨rfl, ⟨nd, rfl⟩⟩; refine ⟨_, rfl, ?_⟩) | ((with_reducible refine gate_callee (f := 34) rfl ?_); refine goesL_ (some 16) rfl rfl Try.func34 (by kernel_rfl) rfl #[.int .i64 (wrap64 (a0 - (wrap64 (768 * (wrap64 ((wrap64 (Int.tdiv (wrap64 (a0 + 7680)) 768)) - 10))))))] rfl (by (try simp only [List.map_toArray, List.map_cons, List.map_nil]); first | done | rfl | (simp only [List.length_drop, List.length_take]; rfl)) ?_; (with_reducible refine (tone_power.calls k (wrap64 (a0 - (wrap64 (768 * (wrap64 ((wrap64 (Int.tdiv (wrap64 (a0 + 7680)) 768)) - 10)))))) t102 _ A4.out).mono ?_); rintro e w' ⟨rfl, ⟨nd, rfl⟩⟩; refine ⟨_, rfl, ?_⟩))
        go_ret
        exact ⟨by first | rfl | (simp; done) | (simp only [← hji9, ← hji11] <;> (first | rfl | simp)) | (simp [*]; done), by repeat (first | exact Drawn0.refl _ | apply Drawn0.step)⟩
      · rw [if_neg c10] at H
        exact absurd H (by simp)
  · replace c3 := Bool.eq_false_iff.mpr c3
    subst c3
    have H1 : (some 0) = some r := by rw [if_neg (show ¬ (false = true) by decide)] at H; exact H
    clear H
    have H := H1
    clear H1
    obtain rfl := Option.some.inj H
    go_enter Try.func9, Try.ntmps9
    go_wp2_with (first | ((with_reducible refine gate_callee (f := 33) rfl ?_); refine goesL_ (some 6) rfl rfl Try.func33 (by kernel_rfl) rfl #[.int .i64 a0, .int .i64 (-7680), .int .i64 7680] rfl (by (try simp only [List.map_toArray, List.map_cons, List.map_nil]); first | done | rfl | (simp only [List.length_drop, List.length_take]; rfl)) ?_; (with_reducible refine (tone_in.calls a0 (-7680) 7680 false _ A2.out).mono ?_); rintro e w' ⟨rfl, ⟨nd, rfl⟩⟩; refine ⟨_, rfl, ?_⟩))
    go_ret
    exact ⟨by first | rfl | (simp; done) | (simp [*]; done), by repeat (first | exact Drawn0.refl _ | apply Drawn0.step)⟩

end Go.Proofs.Ytmoomdmdcjokgaa.PG

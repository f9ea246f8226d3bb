/- Written by a program of this session (wip/tools/xprint.py, over the functions of the kit's print): functions of the given program as Lean functions, each with its contract, or a law's row; no condition. -/
import Derived.Test.YtmoomdmdcjokgaaPGx0
import Derived.Test.YtmoomdmdcjokgaaPGxf33
import Derived.Test.YtmoomdmdcjokgaaPGxf9
namespace Go.Proofs.Ytmoomdmdcjokgaa.PG
open Go.RowKit Go.Proofs.YtmoomdmdcjokgaaW.PrintWords Go.Proofs.YtmoomdmdcjokgaaW.PrintLast Go.Proofs.YtmoomdmdcjokgaaW.PrintMore
attribute [local go_sem] max2_int min2_int max_two min_two max_three min_three max_four min_four   -- for this text's walks alone
set_option linter.unusedVariables false
set_option linter.unusedSimpArgs false

/-! ### tone_Freq: function 10 -/
def tone_Freq.f (k : Nat) (a0 : Int) (a1 : Int) : Option (Int) := (tone_in.f a0 1 65535).bind fun t101 => (if t101 = true then ((tone_in.f a1 (-3840) 11519).bind fun t102 => (if t102 = true then ((tone_Exp.f k (wrap64 (a1 - 3840))).bind fun t103 => (some (wrap64 (Int.tdiv (wrap64 (a0 * t103)) 256)))) else (some 0))) else (some 0))
theorem tone_Freq.mono : ∀ a0 a1 k, LeO (tone_Freq.f k a0 a1) (tone_Freq.f (k + 1) a0 a1) := by
  intro a0 a1 k
  unfold tone_Freq.f
  repeat' first
      | (with_reducible exact tone_Exp.mono _ _)
      | (with_reducible exact LeO.refl _)
      | (with_reducible exact LeO.none _)
      | (with_reducible refine LeO.ite ?_ ?_)
      | (with_reducible refine LeO.bind ?_ (fun _ => ?_))
      | exact tone_Exp.mono _ _
      | exact LeO.none _
      | refine LeO.ite ?_ ?_
      | refine LeO.bind ?_ (fun _ => ?_)
set_option maxHeartbeats 8000000 in
set_option maxRecDepth 100000 in
theorem tone_Freq.calls (k : Nat) (a0 : Int) (a1 : Int) (r : Int) (w : World) (h : tone_Freq.f k a0 a1 = some r) :
    Calls Try.prog 10 #[.int .i64 a0, .int .i64 a1] w fun e w' => e = .returned (.int .i64 r) ∧ Drawn0 w w' := by
  have H : ((tone_in.f a0 1 65535).bind fun t101 => (if t101 = true then ((tone_in.f a1 (-3840) 11519).bind fun t102 => (if t102 = true then ((tone_Exp.f k (wrap64 (a1 - 3840))).bind fun t103 => (some (wrap64 (Int.tdiv (wrap64 (a0 * t103)) 256)))) else (some 0))) else (some 0))) = some r := h
  clear h
  replace H := Option.bind_eq_some_iff.mp H
  obtain ⟨t101, A30, H⟩ := H
  replace H : (if t101 = true then ((tone_in.f a1 (-3840) 11519).bind fun t102 => (if t102 = true then ((tone_Exp.f k (wrap64 (a1 - 3840))).bind fun t103 => (some (wrap64 (Int.tdiv (wrap64 (a0 * t103)) 256)))) else (some 0))) else (some 0)) = some r := H
  have A3 := Aside0.mk A30
  clear A30
  by_cases c4 : t101 = true
  · subst c4
    have H1 : ((tone_in.f a1 (-3840) 11519).bind fun t102 => (if t102 = true then ((tone_Exp.f k (wrap64 (a1 - 3840))).bind fun t103 => (some (wrap64 (Int.tdiv (wrap64 (a0 * t103)) 256)))) else (some 0))) = some r := by rw [if_pos rfl] at H; exact H
    clear H
    have H := H1
    clear H1
    replace H := Option.bind_eq_some_iff.mp H
    obtain ⟨t102, A50, H⟩ := H
    replace H : (if t102 = true then ((tone_Exp.f k (wrap64 (a1 - 3840))).bind fun t103 => (some (wrap64 (Int.tdiv (wrap64 (a0 * t103)) 256)))) else (some 0)) = some r := H
    have A5 := Aside0.mk A50
    clear A50
    by_cases c6 : t102 = true
    · subst c6
      have H1 : ((tone_Exp.f k (wrap64 (a1 - 3840))).bind fun t103 => (some (wrap64 (Int.tdiv (wrap64 (a0 * t103)) 256)))) = some r := by rw [if_pos rfl] at H; exact H
      clear H
      have H := H1
      clear H1
      replace H := Option.bind_eq_some_iff.mp H
      obtain ⟨t103, A70, H⟩ := H
      replace H : (some (wrap64 (Int.tdiv (wrap64 (a0 * t103)) 256))) = some r := H
      have A7 := Aside0.mk A70
      clear A70
      obtain rfl := Option.some.inj H
      go_enter Try.func10, Try.ntmps10
      go_wp2_with (first | ((with_reducible refine gate_callee (f := 33) rfl ?_); refine goesL_ (some 6) rfl rfl Try.func33 (by kernel_rfl) rfl #[.int .i64 a0, .int .i64 1, .int .i64 65535] rfl (by (try simp only [List.map_toArray, List.map_cons, List.map_nil]); first | done | rfl | (simp only [List.length_drop, List.length_take]; rfl)) ?_; (with_reducible refine (tone_in.calls a0 1 65535 true _ A3.out).mono ?_); rintro e w' ⟨rfl, ⟨nd, rfl⟩⟩; refine ⟨_, rfl, ?_⟩) | (go_at_call 33; (with_reducible refine (tone_in.calls a1 (-3840) 11519 true _ A5.out).mono ?_); rintro e w' ⟨rfl, ⟨nd, rfl⟩⟩) | ((with_reducible refine gate_callee (f := 9) rfl ?_); refine goesL_ (some 16) rfl rfl Try.func9 (by kernel_rfl) rfl #[.int .i64 (wrap64 (a1 - 3840))] rfl (by (try simp only [List.map_toArray, List.map_cons, List.map_nil]); first | done | rfl | (simp only [List.length_drop, List.length_take]; rfl)) ?_; (with_reducible refine (tone_Exp.calls k (wrap64 (a1 - 3840)) t103 _ A7.out).mono ?_); rintro e w' ⟨rfl, ⟨nd, rfl⟩⟩; refine ⟨_, rfl, ?_⟩))
      go_ret
      exact ⟨by first | rfl | (simp; done) | (simp [*]; done), by repeat (first | exact Drawn0.refl _ | apply Drawn0.step)⟩
    · replace c6 := Bool.eq_false_iff.mpr c6
      subst c6
      have H1 : (some 0) = some r := by rw [if_neg (show ¬ (false = true) by decide)] at H; exact H
      clear H
      have H := H1
      clear H1
      obtain rfl := Option.some.inj H
      go_enter Try.func10, Try.ntmps10
      go_wp2_with (first | ((with_reducible refine gate_callee (f := 33) rfl ?_); refine goesL_ (some 6) rfl rfl Try.func33 (by kernel_rfl) rfl #[.int .i64 a0, .int .i64 1, .int .i64 65535] rfl (by (try simp only [List.map_toArray, List.map_cons, List.map_nil]); first | done | rfl | (simp only [List.length_drop, List.length_take]; rfl)) ?_; (with_reducible refine (tone_in.calls a0 1 65535 true _ A3.out).mono ?_); rintro e w' ⟨rfl, ⟨nd, rfl⟩⟩; refine ⟨_, rfl, ?_⟩) | (go_at_call 33; (with_reducible refine (tone_in.calls a1 (-3840) 11519 false _ A5.out).mono ?_); rintro e w' ⟨rfl, ⟨nd, rfl⟩⟩))
      go_ret
      exact ⟨by first | rfl | (simp; done) | (simp [*]; done), by repeat (first | exact Drawn0.refl _ | apply Drawn0.step)⟩
  · replace c4 := Bool.eq_false_iff.mpr c4
    subst c4
    have H1 : (some 0) = some r := by rw [if_neg (show ¬ (false = true) by decide)] at H; exact H
    clear H
    have H := H1
    clear H1
    obtain rfl := Option.some.inj H
    go_enter Try.func10, Try.ntmps10
    go_wp2_with (first | ((with_reducible refine gate_callee (f := 33) rfl ?_); refine goesL_ (some 6) rfl rfl Try.func33 (by kernel_rfl) rfl #[.int .i64 a0, .int .i64 1, .int .i64 65535] rfl (by (try simp only [List.map_toArray, List.map_cons, List.map_nil]); first | done | rfl | (simp only [List.length_drop, List.length_take]; rfl)) ?_; (with_reducible refine (tone_in.calls a0 1 65535 false _ A3.out).mono ?_); rintro e w' ⟨rfl, ⟨nd, rfl⟩⟩; refine ⟨_, rfl, ?_⟩))
    go_ret
    exact ⟨by first | rfl | (simp; done) | (simp [*]; done), by repeat (first | exact Drawn0.refl _ | apply Drawn0.step)⟩

end Go.Proofs.Ytmoomdmdcjokgaa.PG

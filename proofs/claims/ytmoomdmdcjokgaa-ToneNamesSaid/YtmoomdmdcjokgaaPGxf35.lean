/- Written by a program of this session (wip/tools/xprint.py, over the functions of the kit's print): functions of the given program as Lean functions, each with its contract, or a law's row; no condition. -/
import Derived.Test.YtmoomdmdcjokgaaPGx0
namespace Go.Proofs.Ytmoomdmdcjokgaa.PG
open Go.RowKit Go.Proofs.YtmoomdmdcjokgaaW.PrintWords Go.Proofs.YtmoomdmdcjokgaaW.PrintLast Go.Proofs.YtmoomdmdcjokgaaW.PrintMore
attribute [local go_sem] max2_int min2_int max_two min_two max_three min_three max_four min_four   -- for this text's walks alone
set_option linter.unusedVariables false
set_option linter.unusedSimpArgs false

/-! ### tone_sine: function 35 (a text of this session) -/
def sineQ : List Int := [0, 25, 50, 74, 98, 120, 142, 162, 180, 197, 212, 225, 236, 244, 250, 254, 255]
def sinV (j : Nat) : Int := sineQ.getD j 0
theorem sine_at (j : Nat) (h : j < 17) : [Value.int .i64 0, Value.int .i64 25, Value.int .i64 50, Value.int .i64 74, Value.int .i64 98, Value.int .i64 120, Value.int .i64 142, Value.int .i64 162, Value.int .i64 180, Value.int .i64 197, Value.int .i64 212, Value.int .i64 225, Value.int .i64 236, Value.int .i64 244, Value.int .i64 250, Value.int .i64 254, Value.int .i64 255][j]? = some (Value.int .i64 (sinV j)) := by
  show (sineQ.map (Value.int .i64))[j]? = some (Value.int .i64 (sineQ.getD j 0))
  rw [List.getElem?_map, List.getD_eq_getElem?_getD, List.getElem?_eq_getElem (show j < sineQ.length from h)]
  rfl
def tone_sine.f (a0 : Int) : Option (Int) := if 0 ≤ a0 then (if a0 < 32 then (if a0 ≤ 16 then some (sinV a0.toNat) else some (sinV (32 - a0).toNat)) else if a0 ≤ 63 then (if a0 ≤ 48 then some (-(sinV (a0 - 32).toNat)) else some (-(sinV (32 - (a0 - 32)).toNat))) else none) else none
theorem sine_bd : ∀ j : Nat, j < 17 → 0 ≤ sinV j ∧ sinV j ≤ 255 := by decide
set_option maxHeartbeats 2000000 in
theorem sine_0 (a0 : Int) (h0 : 0 ≤ a0) (h1 : a0 ≤ 16) (w : World) :
    Calls Try.prog 35 #[.int .i64 a0] w fun e w' => e = .returned (.int .i64 ((sinV a0.toNat))) ∧ Below w.heap.size w w' := by
  have hl := sine_at a0.toNat (by omega)
  obtain ⟨b0, b1⟩ := sine_bd a0.toNat (by omega)
  go_enter Try.func35, Try.ntmps35
  go_wp2
  go_ret
  exact ⟨rfl, (Below.refl _ _).alloc (Nat.le_refl _) _⟩
set_option maxHeartbeats 2000000 in
theorem sine_1 (a0 : Int) (h0 : 16 < a0) (h1 : a0 < 32) (w : World) :
    Calls Try.prog 35 #[.int .i64 a0] w fun e w' => e = .returned (.int .i64 ((sinV (32 - a0).toNat))) ∧ Below w.heap.size w w' := by
  have hl := sine_at (32 - a0).toNat (by omega)
  obtain ⟨b0, b1⟩ := sine_bd (32 - a0).toNat (by omega)
  go_enter Try.func35, Try.ntmps35
  go_wp2
  go_ret
  exact ⟨rfl, (Below.refl _ _).alloc (Nat.le_refl _) _⟩
set_option maxHeartbeats 2000000 in
theorem sine_2 (a0 : Int) (h0 : 32 ≤ a0) (h1 : a0 ≤ 48) (w : World) :
    Calls Try.prog 35 #[.int .i64 a0] w fun e w' => e = .returned (.int .i64 (-(sinV (a0 - 32).toNat))) ∧ Below w.heap.size w w' := by
  have hl := sine_at (a0 - 32).toNat (by omega)
  obtain ⟨b0, b1⟩ := sine_bd (a0 - 32).toNat (by omega)
  go_enter Try.func35, Try.ntmps35
  go_wp2
  go_ret
  exact ⟨rfl, (Below.refl _ _).alloc (Nat.le_refl _) _⟩
set_option maxHeartbeats 2000000 in
theorem sine_3 (a0 : Int) (h0 : 48 < a0) (h1 : a0 ≤ 63) (w : World) :
    Calls Try.prog 35 #[.int .i64 a0] w fun e w' => e = .returned (.int .i64 (-(sinV (32 - (a0 - 32)).toNat))) ∧ Below w.heap.size w w' := by
  have hl := sine_at (32 - (a0 - 32)).toNat (by omega)
  obtain ⟨b0, b1⟩ := sine_bd (32 - (a0 - 32)).toNat (by omega)
  go_enter Try.func35, Try.ntmps35
  go_wp2
  go_ret
  exact ⟨rfl, (Below.refl _ _).alloc (Nat.le_refl _) _⟩
theorem tone_sine.calls (a0 : Int) (r : Int) (w : World) (h : tone_sine.f a0 = some r) :
    Calls Try.prog 35 #[.int .i64 a0] w fun e w' => e = .returned (.int .i64 r) ∧ Below w.heap.size w w' := by
  unfold tone_sine.f at h
  by_cases c0 : 0 ≤ a0
  · rw [if_pos c0] at h
    by_cases c1 : a0 < 32
    · rw [if_pos c1] at h
      by_cases c2 : a0 ≤ 16
      · rw [if_pos c2] at h
        obtain rfl := Option.some.inj h
        exact sine_0 a0 c0 c2 w
      · rw [if_neg c2] at h
        obtain rfl := Option.some.inj h
        exact sine_1 a0 (by omega) c1 w
    · rw [if_neg c1] at h
      by_cases c3 : a0 ≤ 63
      · rw [if_pos c3] at h
        by_cases c2 : a0 ≤ 48
        · rw [if_pos c2] at h
          obtain rfl := Option.some.inj h
          exact sine_2 a0 (by omega) c2 w
        · rw [if_neg c2] at h
          obtain rfl := Option.some.inj h
          exact sine_3 a0 (by omega) c3 w
      · rw [if_neg c3] at h; cases h
  · rw [if_neg c0] at h; cases h

end Go.Proofs.Ytmoomdmdcjokgaa.PG

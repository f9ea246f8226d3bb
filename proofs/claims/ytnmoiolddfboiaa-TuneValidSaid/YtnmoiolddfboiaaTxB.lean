/- Small functions: division, rounding, bounds. -/
import Derived.Test.YtnmoiolddfboiaaTxA
namespace Go.Proofs.Ytnmoiolddfboiaa.TX
open Go.RowKit Go.Proofs.YtnmoiolddfboiaaW.PrintLast
set_option linter.unusedVariables false
set_option linter.unusedSimpArgs false
set_option maxHeartbeats 4000000 in
set_option maxRecDepth 100000 in
theorem floor_any (a b : Int) (h0 : -1000000000000000 ≤ a) (h1 : a ≤ 1000000000000000) (hb : 0 < b) (hb2 : b ≤ 1000000000000000) (w : World) : Calls Try.prog 99 #[iv a, iv b] w fun e w' => e = .returned (iv (a / b)) ∧ w = w' := by
  rcases Int.lt_or_le a 0 with ha | ha
  · have hq := fdiv_neg hb ha
    have q0 : 0 ≤ (-a + b - 1) / b := Int.ediv_nonneg (by omega) (by omega)
    have q1 : (-a + b - 1) / b ≤ -a + b - 1 := Int.ediv_le_self _ (by omega)
    rw [← hq]
    clear hq
    go_enter Try.func99, Try.ntmps99
    go_wp2
    go_ret
    exact ⟨rfl, rfl⟩
  · have q0 : 0 ≤ a / b := Int.ediv_nonneg (by omega) (by omega)
    have q1 : a / b ≤ a := Int.ediv_le_self _ (by omega)
    go_enter Try.func99, Try.ntmps99
    go_wp2
    go_ret
    exact ⟨rfl, rfl⟩
set_option maxHeartbeats 4000000 in
set_option maxRecDepth 100000 in
theorem floordiv_any (a b : Int) (h0 : -1000000000000000 ≤ a) (h1 : a ≤ 1000000000000000) (hb : 0 < b) (hb2 : b ≤ 1000000000000000) (w : World) : Calls Try.prog 91 #[iv a, iv b] w fun e w' => e = .returned (iv (a / b)) ∧ w = w' := by
  have hq := tdiv_rem (a := a) hb
  have q2 : -1000000000000000 ≤ a.tdiv b ∧ a.tdiv b ≤ 1000000000000000 := by
    rcases Int.lt_or_le a 0 with ha | ha
    · obtain ⟨m, rfl⟩ : ∃ m, a = -m := ⟨-a, by omega⟩
      rw [Int.neg_tdiv, Int.tdiv_eq_ediv_of_nonneg (by omega)]
      have q0 : 0 ≤ m / b := Int.ediv_nonneg (by omega) (by omega)
      have q1 : m / b ≤ m := Int.ediv_le_self _ (by omega)
      omega
    · rw [Int.tdiv_eq_ediv_of_nonneg ha]
      have q0 : 0 ≤ a / b := Int.ediv_nonneg (by omega) (by omega)
      have q1 : a / b ≤ a := Int.ediv_le_self _ (by omega)
      omega
  have wq : wrap64 (a.tdiv b) = a.tdiv b := by unfold wrap64; omega
  have n0 : ¬ (b = 0) := by omega
  by_cases hr : a.tmod b < 0
  · rw [if_pos hr] at hq
    rw [← hq]
    clear hq
    go_enter Try.func91, Try.ntmps91
    go_wp2
    go_ret
    exact ⟨rfl, rfl⟩
  · rw [if_neg hr] at hq
    rw [← hq]
    clear hq
    go_enter Try.func91, Try.ntmps91
    go_wp2
    go_ret
    exact ⟨rfl, rfl⟩
/-- rounded to the nearest -/
def nr (a b : Int) : Int := if a < 0 then -((-2 * a + b) / (2 * b)) else (2 * a + b) / (2 * b)
set_option maxHeartbeats 4000000 in
set_option maxRecDepth 100000 in
theorem nearest_any (a b : Int) (h0 : -1000000000000000 ≤ a) (h1 : a ≤ 1000000000000000) (hb : 0 < b) (hb2 : b ≤ 1000000000000000) (w : World) : Calls Try.prog 98 #[iv a, iv b] w fun e w' => e = .returned (iv (nr a b)) ∧ w = w' := by
  rcases Int.lt_or_le a 0 with ha | ha
  · have q0 : 0 ≤ (-2 * a + b) / (2 * b) := Int.ediv_nonneg (by omega) (by omega)
    have q1 : (-2 * a + b) / (2 * b) ≤ -2 * a + b := Int.ediv_le_self _ (by omega)
    have e : nr a b = -((-2 * a + b) / (2 * b)) := if_pos ha
    rw [e]
    clear e
    go_enter Try.func98, Try.ntmps98
    go_wp2
    go_ret
    exact ⟨rfl, rfl⟩
  · have q0 : 0 ≤ (2 * a + b) / (2 * b) := Int.ediv_nonneg (by omega) (by omega)
    have q1 : (2 * a + b) / (2 * b) ≤ 2 * a + b := Int.ediv_le_self _ (by omega)
    have e : nr a b = (2 * a + b) / (2 * b) := if_neg (by omega)
    rw [e]
    clear e
    go_enter Try.func98, Try.ntmps98
    go_wp2
    go_ret
    exact ⟨rfl, rfl⟩
/-- the greatest frame and one -/
def Bits (b h : Int) : Prop := b = 8 ∧ h = 128 ∨ b = 16 ∧ h = 32768
def clp (h x : Int) : Int := if x < -h then -h else if h - 1 < x then h - 1 else x
set_option maxHeartbeats 4000000 in
set_option maxRecDepth 100000 in
theorem limit_any (b h : Int) (hb : Bits b h) (w : World) : Calls Try.prog 88 #[iv b] w fun e w' => e = .returned (.tuple #[iv (-h), iv (h - 1)]) ∧ ∃ m, w' = w.drewN m := by
  rcases hb with ⟨rfl, rfl⟩ | ⟨rfl, rfl⟩ <;> (
    go_enter Try.func88, Try.ntmps88
    go_wp2
    go_quiet (fail)
    go_wp2
    go_ret2
    exact ⟨rfl, _, rfl⟩)
set_option maxHeartbeats 4000000 in
set_option maxRecDepth 100000 in
theorem clamp_any (x h : Int) (h0 : 1 ≤ h) (h1 : h ≤ 100000) (w : World) : Calls Try.prog 93 #[iv x, iv (-h), iv (h - 1)] w fun e w' => e = .returned (iv (clp h x)) ∧ w = w' := by
  by_cases c0 : x < -h
  · have e : clp h x = -h := if_pos c0
    have m1 : (x < h - 1) = True := eq_true (by omega)
    have m2 : (-h < x) = False := eq_false (by omega)
    rw [e]
    clear e
    go_enter Try.func93, Try.ntmps93
    go_wp2
    all_goals (go_ret; exact ⟨by first | rfl | (congr 2; omega), rfl⟩)
  · by_cases c1 : h - 1 < x
    · have e : clp h x = h - 1 := by unfold clp; rw [if_neg c0, if_pos c1]
      have m1 : (x < h - 1) = False := eq_false (by omega)
      have m2 : (-h < h - 1) = True := eq_true (by omega)
      rw [e]
      clear e
      go_enter Try.func93, Try.ntmps93
      go_wp2
      all_goals (go_ret; exact ⟨by first | rfl | (congr 2; omega), rfl⟩)
    · have e : clp h x = x := by unfold clp; rw [if_neg c0, if_neg c1]
      rw [e]
      clear e
      by_cases c2 : x = h - 1
      · have m1 : (x < h - 1) = False := eq_false (by omega)
        by_cases c3 : -h < h - 1
        · have m2 : (-h < h - 1) = True := eq_true c3
          go_enter Try.func93, Try.ntmps93
          go_wp2
          all_goals (go_ret; exact ⟨by first | rfl | (congr 2; omega), rfl⟩)
        · omega
      have m1 : (x < h - 1) = True := eq_true (by omega)
      by_cases c3 : -h < x
      · have m2 : (-h < x) = True := eq_true c3
        go_enter Try.func93, Try.ntmps93
        go_wp2
        all_goals (go_ret; exact ⟨by first | rfl | (congr 2; omega), rfl⟩)
      obtain rfl : x = -h := by omega
      have m2 : (-h < -h) = False := eq_false c3
      go_enter Try.func93, Try.ntmps93
      go_wp2
      all_goals (go_ret; exact ⟨by first | rfl | (congr 2; omega), rfl⟩)
set_option maxHeartbeats 4000000 in
set_option maxRecDepth 100000 in
theorem in_yes (n lo hi : Int) (w : World) (h0 : lo ≤ n) (h1 : n ≤ hi) : Calls Try.prog 87 #[iv n, iv lo, iv hi] w fun e w' => e = .returned (.bool true) ∧ w = w' := by
  go_enter Try.func87, Try.ntmps87
  go_wp2
  go_ret
  exact ⟨rfl, rfl⟩
set_option maxHeartbeats 4000000 in
set_option maxRecDepth 100000 in
theorem in_no (n lo hi : Int) (w : World) (h : n < lo ∨ hi < n) : Calls Try.prog 87 #[iv n, iv lo, iv hi] w fun e w' => e = .returned (.bool false) ∧ w = w' := by
  rcases (by omega : n < lo ∨ (lo ≤ n ∧ hi < n)) with h | ⟨h0, h⟩ <;> (
    have d1 : lo ≤ n → decide (n ≤ hi) = false := fun h0 => decide_eq_false (by omega)
    first | (have d0 : decide (lo ≤ n) = true := decide_eq_true h0; have d2 := d1 h0) | skip
    clear d1
    go_enter Try.func87, Try.ntmps87
    go_wp2
    go_ret
    exact ⟨rfl, rfl⟩)
set_option maxHeartbeats 4000000 in
set_option maxRecDepth 100000 in
theorem rin_yes (n lo hi : Int) (w : World) (h0 : lo ≤ n) (h1 : n ≤ hi) : Calls Try.prog 90 #[iv n, iv lo, iv hi] w fun e w' => e = .returned (.bool true) ∧ w = w' := by
  go_enter Try.func90, Try.ntmps90
  go_wp2
  go_ret
  exact ⟨rfl, rfl⟩
set_option maxHeartbeats 4000000 in
set_option maxRecDepth 100000 in
theorem rin_no (n lo hi : Int) (w : World) (h : n < lo ∨ hi < n) : Calls Try.prog 90 #[iv n, iv lo, iv hi] w fun e w' => e = .returned (.bool false) ∧ w = w' := by
  rcases (by omega : n < lo ∨ (lo ≤ n ∧ hi < n)) with h | ⟨h0, h⟩ <;> (
    have d1 : lo ≤ n → decide (n ≤ hi) = false := fun h0 => decide_eq_false (by omega)
    first | (have d0 : decide (lo ≤ n) = true := decide_eq_true h0; have d2 := d1 h0) | skip
    clear d1
    go_enter Try.func90, Try.ntmps90
    go_wp2
    go_ret
    exact ⟨rfl, rfl⟩)
end Go.Proofs.Ytnmoiolddfboiaa.TX

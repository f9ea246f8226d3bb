/- The tone chip: the small functions of the program and of the reference, each by its answer; conditions: the ranges named. -/
import Derived.Test.YtfpgidflaaefeaaChA
namespace Go.Proofs.Ytfpgidflaaefeaa.CH
open Go.RowKit Go.Proofs.YtfpgidflaaefeaaW.PrintLast
set_option linter.unusedVariables false
set_option linter.unusedSimpArgs false
set_option maxHeartbeats 1000000 in
theorem in_yes (n lo hi : Int) (w : World) (h0 : lo ≤ n) (h1 : n ≤ hi) : Calls Try.prog 35 #[iv n, iv lo, iv hi] w fun e w' => e = .returned (.bool true) ∧ w = w' := by
  go_enter Try.func35, Try.ntmps35
  go_wp2
  go_ret
  exact ⟨rfl, rfl⟩
set_option maxHeartbeats 1000000 in
theorem in_no (n lo hi : Int) (w : World) (h : n < lo ∨ hi < n) : Calls Try.prog 35 #[iv n, iv lo, iv hi] w fun e w' => e = .returned (.bool false) ∧ w = w' := by
  by_cases h0 : lo ≤ n
  · have h1 : hi < n := by omega
    clear h
    have d0 : decide (lo ≤ n) = true := decide_eq_true h0
    have d1 : decide (n ≤ hi) = false := decide_eq_false (by omega)
    go_enter Try.func35, Try.ntmps35
    go_wp2
    go_ret
    exact ⟨rfl, rfl⟩
  · have d0 : decide (lo ≤ n) = false := decide_eq_false h0
    clear h
    go_enter Try.func35, Try.ntmps35
    go_wp2
    go_ret
    exact ⟨rfl, rfl⟩
set_option maxHeartbeats 1000000 in
theorem rin_yes (n lo hi : Int) (w : World) (h0 : lo ≤ n) (h1 : n ≤ hi) : Calls Try.prog 38 #[iv n, iv lo, iv hi] w fun e w' => e = .returned (.bool true) ∧ w = w' := by
  go_enter Try.func38, Try.ntmps38
  go_wp2
  go_ret
  exact ⟨rfl, rfl⟩
set_option maxHeartbeats 1000000 in
theorem rin_no (n lo hi : Int) (w : World) (h : n < lo ∨ hi < n) : Calls Try.prog 38 #[iv n, iv lo, iv hi] w fun e w' => e = .returned (.bool false) ∧ w = w' := by
  by_cases h0 : lo ≤ n
  · have h1 : hi < n := by omega
    clear h
    have d0 : decide (lo ≤ n) = true := decide_eq_true h0
    have d1 : decide (n ≤ hi) = false := decide_eq_false (by omega)
    go_enter Try.func38, Try.ntmps38
    go_wp2
    go_ret
    exact ⟨rfl, rfl⟩
  · have d0 : decide (lo ≤ n) = false := decide_eq_false h0
    clear h
    go_enter Try.func38, Try.ntmps38
    go_wp2
    go_ret
    exact ⟨rfl, rfl⟩
/-- the step that follows a step of a shape -/
def fol (shape step : Int) : Int := if step < 63 then step + 1 else if shape / 8 % 2 = 0 ∨ shape % 2 = 1 then 63 else if shape / 2 % 2 = 1 then 0 else 32
/-- a shape's value at a step -/
def shv (shape step : Int) : Int :=
  if step < 32 then (if shape / 4 % 2 = 1 then step % 32 else 31 - step % 32)
  else if shape / 8 % 2 = 0 then 0
  else if shape % 2 = 1 then (if (shape / 4 % 2 = 1) = (shape / 2 % 2 = 1) then 0 else 31)
  else if shape / 2 % 2 = 1 then 31 - (if shape / 4 % 2 = 1 then step % 32 else 31 - step % 32)
  else (if shape / 4 % 2 = 1 then step % 32 else 31 - step % 32)
set_option maxHeartbeats 4000000 in
theorem follows_any (s t : Int) (w : World) (s0 : 0 ≤ s) (s1 : s ≤ 15) (t0 : 0 ≤ t) (t1 : t ≤ 63) : Calls Try.prog 37 #[iv s, iv t] w fun e w' => e = .returned (iv (fol s t)) ∧ w = w' := by
  by_cases h : t < 63
  · rw [show fol s t = t + 1 from if_pos h]
    go_enter Try.func37, Try.ntmps37
    go_wp2
    go_ret
    exact ⟨rfl, rfl⟩
  · obtain rfl : t = 63 := by omega
    clear h t0 t1
    rcases (by omega : s = 0 ∨ s = 1 ∨ s = 2 ∨ s = 3 ∨ s = 4 ∨ s = 5 ∨ s = 6 ∨ s = 7 ∨ s = 8 ∨ s = 9 ∨ s = 10 ∨ s = 11 ∨ s = 12 ∨ s = 13 ∨ s = 14 ∨ s = 15) with rfl | rfl | rfl | rfl | rfl | rfl | rfl | rfl | rfl | rfl | rfl | rfl | rfl | rfl | rfl | rfl <;> (
      go_enter Try.func37, Try.ntmps37
      go_wp2
      go_ret
      exact ⟨rfl, rfl⟩)
set_option maxHeartbeats 4000000 in
theorem rfollows_any (s t : Int) (w : World) (s0 : 0 ≤ s) (s1 : s ≤ 15) (t0 : 0 ≤ t) (t1 : t ≤ 63) : Calls Try.prog 39 #[iv s, iv t] w fun e w' => e = .returned (iv (fol s t)) ∧ w = w' := by
  by_cases h : t < 63
  · rw [show fol s t = t + 1 from if_pos h]
    go_enter Try.func39, Try.ntmps39
    go_wp2
    go_ret
    exact ⟨rfl, rfl⟩
  · obtain rfl : t = 63 := by omega
    clear h t0 t1
    rcases (by omega : s = 0 ∨ s = 1 ∨ s = 2 ∨ s = 3 ∨ s = 4 ∨ s = 5 ∨ s = 6 ∨ s = 7 ∨ s = 8 ∨ s = 9 ∨ s = 10 ∨ s = 11 ∨ s = 12 ∨ s = 13 ∨ s = 14 ∨ s = 15) with rfl | rfl | rfl | rfl | rfl | rfl | rfl | rfl | rfl | rfl | rfl | rfl | rfl | rfl | rfl | rfl <;> (
      go_enter Try.func39, Try.ntmps39
      go_wp2
      go_ret
      exact ⟨rfl, rfl⟩)
set_option maxHeartbeats 8000000 in
theorem shaped_any (s t : Int) (w : World) (s0 : 0 ≤ s) (s1 : s ≤ 15) (t0 : 0 ≤ t) (t1 : t ≤ 63) : Calls Try.prog 36 #[iv s, iv t] w fun e w' => e = .returned (iv (shv s t)) ∧ w = w' := by
  by_cases h : t < 32
  · rcases (by omega : s = 0 ∨ s = 1 ∨ s = 2 ∨ s = 3 ∨ s = 4 ∨ s = 5 ∨ s = 6 ∨ s = 7 ∨ s = 8 ∨ s = 9 ∨ s = 10 ∨ s = 11 ∨ s = 12 ∨ s = 13 ∨ s = 14 ∨ s = 15) with rfl | rfl | rfl | rfl | rfl | rfl | rfl | rfl | rfl | rfl | rfl | rfl | rfl | rfl | rfl | rfl <;> (
      simp only [shv, if_pos h]
      go_enter Try.func36, Try.ntmps36
      go_wp2
      go_ret
      exact ⟨rfl, rfl⟩)
  · rcases (by omega : s = 0 ∨ s = 1 ∨ s = 2 ∨ s = 3 ∨ s = 4 ∨ s = 5 ∨ s = 6 ∨ s = 7 ∨ s = 8 ∨ s = 9 ∨ s = 10 ∨ s = 11 ∨ s = 12 ∨ s = 13 ∨ s = 14 ∨ s = 15) with rfl | rfl | rfl | rfl | rfl | rfl | rfl | rfl | rfl | rfl | rfl | rfl | rfl | rfl | rfl | rfl <;> (
      simp only [shv, if_neg h]
      go_enter Try.func36, Try.ntmps36
      go_wp2
      go_ret
      exact ⟨rfl, rfl⟩)
set_option maxHeartbeats 8000000 in
theorem rvalue_any (s t : Int) (w : World) (s0 : 0 ≤ s) (s1 : s ≤ 15) (t0 : 0 ≤ t) (t1 : t ≤ 63) : Calls Try.prog 40 #[iv s, iv t] w fun e w' => e = .returned (iv (shv s t)) ∧ w = w' := by
  by_cases h : t < 32
  · rcases (by omega : s = 0 ∨ s = 1 ∨ s = 2 ∨ s = 3 ∨ s = 4 ∨ s = 5 ∨ s = 6 ∨ s = 7 ∨ s = 8 ∨ s = 9 ∨ s = 10 ∨ s = 11 ∨ s = 12 ∨ s = 13 ∨ s = 14 ∨ s = 15) with rfl | rfl | rfl | rfl | rfl | rfl | rfl | rfl | rfl | rfl | rfl | rfl | rfl | rfl | rfl | rfl <;> (
      simp only [shv, if_pos h]
      go_enter Try.func40, Try.ntmps40
      go_wp2
      go_ret
      exact ⟨rfl, rfl⟩)
  · rcases (by omega : s = 0 ∨ s = 1 ∨ s = 2 ∨ s = 3 ∨ s = 4 ∨ s = 5 ∨ s = 6 ∨ s = 7 ∨ s = 8 ∨ s = 9 ∨ s = 10 ∨ s = 11 ∨ s = 12 ∨ s = 13 ∨ s = 14 ∨ s = 15) with rfl | rfl | rfl | rfl | rfl | rfl | rfl | rfl | rfl | rfl | rfl | rfl | rfl | rfl | rfl | rfl <;> (
      simp only [shv, if_neg h]
      go_enter Try.func40, Try.ntmps40
      go_wp2
      go_ret
      exact ⟨rfl, rfl⟩)
/-- the greater of one and a number -/
def mx1 (x : Int) : Int := if 1 < x then x else 1
set_option maxHeartbeats 1000000 in
theorem count_any (c p : Int) (w : World) (h0 : 0 ≤ c) (h1 : c ≤ 65535) (h2 : 0 ≤ p) (h3 : p ≤ 1000000) :
    Calls Try.prog 59 #[iv c, iv p] w fun e w' => e = .returned (.tuple #[iv (nx c (mx1 p)), .bool (du c (mx1 p))]) ∧ w = w' := by
  by_cases hp : 1 < p
  · rw [show mx1 p = p from if_pos hp]
    by_cases h : p ≤ c + 1
    · rw [show nx c p = 0 from if_pos h, show du c p = true from decide_eq_true h]
      go_enter Try.func59, Try.ntmps59
      go_wp2
      go_ret2
      exact ⟨rfl, rfl⟩
    · rw [show nx c p = c + 1 from if_neg h, show du c p = false from decide_eq_false h]
      go_enter Try.func59, Try.ntmps59
      go_wp2
      go_ret2
      exact ⟨rfl, rfl⟩
  · have hp' : p ≤ 1 := by omega
    rw [show mx1 p = 1 from if_neg hp, show nx c 1 = 0 from if_pos (by omega), show du c 1 = true from decide_eq_true (by omega)]
    go_enter Try.func59, Try.ntmps59
    go_wp2
    all_goals (go_ret2; exact ⟨rfl, rfl⟩)
theorem mx1_of {x : Int} (h : 1 ≤ x) : mx1 x = x := by unfold mx1; split <;> omega
theorem count_pos (c p : Int) (w : World) (h0 : 0 ≤ c) (h1 : c ≤ 65535) (h2 : 1 ≤ p) (h3 : p ≤ 1000000) :
    Calls Try.prog 59 #[iv c, iv p] w fun e w' => e = .returned (.tuple #[iv (nx c p), .bool (du c p)]) ∧ w = w' := by
  have := count_any c p w h0 h1 (by omega) h3
  rwa [mx1_of h2] at this
theorem count_per (c lo hi : Int) (w : World) (h0 : 0 ≤ c) (h1 : c ≤ 65535) (h2 : 0 ≤ lo) (h3 : lo ≤ 255) (h4 : 0 ≤ hi) (h5 : hi ≤ 255) :
    Calls Try.prog 59 #[iv c, iv (lo + 256 * (hi % 16))] w fun e w' => e = .returned (.tuple #[iv (nx c (per lo hi)), .bool (du c (per lo hi))]) ∧ w = w' := by
  have := count_any c (lo + 256 * (hi % 16)) w h0 h1 (by omega) (by omega)
  rwa [show mx1 (lo + 256 * (hi % 16)) = per lo hi by unfold mx1 per; rw [Int.mul_comm 256]] at this
end Go.Proofs.Ytfpgidflaaefeaa.CH

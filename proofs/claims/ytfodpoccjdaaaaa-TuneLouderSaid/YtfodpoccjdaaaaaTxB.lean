/- Small functions: division, rounding, bounds. -/
import Derived.Test.YtfodpoccjdaaaaaTxA
namespace Go.Proofs.Ytfodpoccjdaaaaa.TX
open Go.RowKit Go.Proofs.YtfodpoccjdaaaaaW.PrintLast
set_option linter.unusedVariables false
set_option linter.unusedSimpArgs false
/-- rounded to the nearest -/
def nr (a b : Int) : Int := if a < 0 then -((-2 * a + b) / (2 * b)) else (2 * a + b) / (2 * b)
/-- the greatest frame and one -/
def Bits (b h : Int) : Prop := b = 8 ∧ h = 128 ∨ b = 16 ∧ h = 32768
def clp (h x : Int) : Int := if x < -h then -h else if h - 1 < x then h - 1 else x
set_option maxHeartbeats 4000000 in
set_option maxRecDepth 100000 in
theorem in_yes (n lo hi : Int) (w : World) (h0 : lo ≤ n) (h1 : n ≤ hi) : Calls Try.prog 96 #[iv n, iv lo, iv hi] w fun e w' => e = .returned (.bool true) ∧ w = w' := by
  go_enter Try.func96, Try.ntmps96
  go_wp2
  go_ret
  exact ⟨rfl, rfl⟩
set_option maxHeartbeats 4000000 in
set_option maxRecDepth 100000 in
theorem in_no (n lo hi : Int) (w : World) (h : n < lo ∨ hi < n) : Calls Try.prog 96 #[iv n, iv lo, iv hi] w fun e w' => e = .returned (.bool false) ∧ w = w' := by
  rcases (by omega : n < lo ∨ (lo ≤ n ∧ hi < n)) with h | ⟨h0, h⟩ <;> (
    have d1 : lo ≤ n → decide (n ≤ hi) = false := fun h0 => decide_eq_false (by omega)
    first | (have d0 : decide (lo ≤ n) = true := decide_eq_true h0; have d2 := d1 h0) | skip
    clear d1
    go_enter Try.func96, Try.ntmps96
    go_wp2
    go_ret
    exact ⟨rfl, rfl⟩)
end Go.Proofs.Ytfodpoccjdaaaaa.TX

/- Written by a program of this session (wip/tools/xprint.py, over the functions of the kit's print): functions of the given program as Lean functions, each with its contract, or a law's row; no condition. -/
import Derived.Test.YtfpgidflaaefeaaPGx0
namespace Go.Proofs.Ytfpgidflaaefeaa.PG
open Go.RowKit Go.Proofs.YtfpgidflaaefeaaW.PrintWords Go.Proofs.YtfpgidflaaefeaaW.PrintLast Go.Proofs.YtfpgidflaaefeaaW.PrintMore
attribute [local go_sem] max2_int min2_int max_two min_two max_three min_three max_four min_four   -- for this text's walks alone
set_option linter.unusedVariables false
set_option linter.unusedSimpArgs false

/-! ### chip_levels: function 33 (a text of this session) -/
def lvA (k : Nat) : Array Value := #[.int .i64 (if k < 0 then 0 else 0), .int .i64 (if k < 1 then 62 else 0), .int .i64 (if k < 2 then 89 else 0), .int .i64 (if k < 3 then 127 else 0), .int .i64 (if k < 4 then 180 else 0), .int .i64 (if k < 5 then 255 else 0), .int .i64 (if k < 6 then 361 else 0), .int .i64 (if k < 7 then 511 else 0), .int .i64 (if k < 8 then 723 else 0), .int .i64 (if k < 9 then 1023 else 0), .int .i64 (if k < 10 then 1447 else 0), .int .i64 (if k < 11 then 2047 else 0), .int .i64 (if k < 12 then 2895 else 0), .int .i64 (if k < 13 then 4095 else 0), .int .i64 (if k < 14 then 5792 else 0), .int .i64 (if k < 15 then 8192 else 0)]
def lvW (w : World) (k : Nat) : World := (w.alloc (Obj.cells #[.int .i64 0, .int .i64 0, .int .i64 0, .int .i64 0, .int .i64 0, .int .i64 0, .int .i64 0, .int .i64 0, .int .i64 0, .int .i64 0, .int .i64 0, .int .i64 0, .int .i64 0, .int .i64 0, .int .i64 0, .int .i64 0] 65)).alloc (Obj.cells (lvA k) 65)
set_option maxHeartbeats 4000000 in
set_option maxRecDepth 100000 in
theorem lev (w : World) : Calls Try.prog 33 #[] w fun e w' => e = .returned (.agg #[.int .i64 0, .int .i64 62, .int .i64 89, .int .i64 127, .int .i64 180, .int .i64 255, .int .i64 361, .int .i64 511, .int .i64 723, .int .i64 1023, .int .i64 1447, .int .i64 2047, .int .i64 2895, .int .i64 4095, .int .i64 5792, .int .i64 8192]) ∧ Below w.heap.size w w' := by
  go_enter Try.func33, Try.ntmps33
  go_wp2
  go_loopw [2] (fun v wr => ∃ k : Nat, k ≤ 14 ∧ v = .int .i64 k ∧ wr = lvW w k) (fun v _ => (intOf v).toNat)
  case atStart => exact ⟨14, by omega, rfl, rfl⟩
  case round =>
    obtain ⟨k, hk, rfl, rfl⟩ := hrel
    rcases (by omega : k = 0 ∨ k = 1 ∨ k = 2 ∨ k = 3 ∨ k = 4 ∨ k = 5 ∨ k = 6 ∨ k = 7 ∨ k = 8 ∨ k = 9 ∨ k = 10 ∨ k = 11 ∨ k = 12 ∨ k = 13 ∨ k = 14) with rfl | rfl | rfl | rfl | rfl | rfl | rfl | rfl | rfl | rfl | rfl | rfl | rfl | rfl | rfl
    · simp only [lvW, lvA, Int.natCast_zero]
      go_wp2
      refine bodyPost_ret (results_cell_row rfl _ _ w.heap.size 65 _ (0, 0) _ rfl ((Below.heap_alloc _ _ _ (by simp)).trans (heap_alloc_new w _)) Try.underlying65 rfl (by kernel_rfl)) rfl ⟨rfl, ?_⟩
      exact ((Below.refl _ _).alloc (Nat.le_refl _) _).alloc (by simp) _
    · simp only [lvW, lvA]
      go_wp2
      exact ⟨⟨0, by omega, rfl, by first | rfl | (simp [lvW, lvA]; done)⟩, by simp [intOf]⟩
    · simp only [lvW, lvA]
      go_wp2
      exact ⟨⟨1, by omega, rfl, by first | rfl | (simp [lvW, lvA]; done)⟩, by simp [intOf]⟩
    · simp only [lvW, lvA]
      go_wp2
      exact ⟨⟨2, by omega, rfl, by first | rfl | (simp [lvW, lvA]; done)⟩, by simp [intOf]⟩
    · simp only [lvW, lvA]
      go_wp2
      exact ⟨⟨3, by omega, rfl, by first | rfl | (simp [lvW, lvA]; done)⟩, by simp [intOf]⟩
    · simp only [lvW, lvA]
      go_wp2
      exact ⟨⟨4, by omega, rfl, by first | rfl | (simp [lvW, lvA]; done)⟩, by simp [intOf]⟩
    · simp only [lvW, lvA]
      go_wp2
      exact ⟨⟨5, by omega, rfl, by first | rfl | (simp [lvW, lvA]; done)⟩, by simp [intOf]⟩
    · simp only [lvW, lvA]
      go_wp2
      exact ⟨⟨6, by omega, rfl, by first | rfl | (simp [lvW, lvA]; done)⟩, by simp [intOf]⟩
    · simp only [lvW, lvA]
      go_wp2
      exact ⟨⟨7, by omega, rfl, by first | rfl | (simp [lvW, lvA]; done)⟩, by simp [intOf]⟩
    · simp only [lvW, lvA]
      go_wp2
      exact ⟨⟨8, by omega, rfl, by first | rfl | (simp [lvW, lvA]; done)⟩, by simp [intOf]⟩
    · simp only [lvW, lvA]
      go_wp2
      exact ⟨⟨9, by omega, rfl, by first | rfl | (simp [lvW, lvA]; done)⟩, by simp [intOf]⟩
    · simp only [lvW, lvA]
      go_wp2
      exact ⟨⟨10, by omega, rfl, by first | rfl | (simp [lvW, lvA]; done)⟩, by simp [intOf]⟩
    · simp only [lvW, lvA]
      go_wp2
      exact ⟨⟨11, by omega, rfl, by first | rfl | (simp [lvW, lvA]; done)⟩, by simp [intOf]⟩
    · simp only [lvW, lvA]
      go_wp2
      exact ⟨⟨12, by omega, rfl, by first | rfl | (simp [lvW, lvA]; done)⟩, by simp [intOf]⟩
    · simp only [lvW, lvA]
      go_wp2
      exact ⟨⟨13, by omega, rfl, by first | rfl | (simp [lvW, lvA]; done)⟩, by simp [intOf]⟩

end Go.Proofs.Ytfpgidflaaefeaa.PG

/- The tone chip: what it puts out, by the program and by the reference; conditions: the chip is in its ranges. -/
import Derived.Test.YtfpgidflaaefeaaChC
namespace Go.Proofs.Ytfpgidflaaefeaa.CH
open Go.RowKit Go.Proofs.YtfpgidflaaefeaaW.PrintLast
set_option linter.unusedVariables false
set_option linter.unusedSimpArgs false
/-- a level, d volumes below the highest -/
def lvd : Nat → Int
  | 0 => 8192
  | d + 1 => lvd d * 46341 / 65536
theorem lvd_bd : ∀ d, 0 ≤ lvd d ∧ lvd d ≤ 8192
  | 0 => by decide
  | d + 1 => by have := lvd_bd d; unfold lvd; omega
/-- the level of a volume -/
def lvl (v : Int) : Int := if v ≤ 0 then 0 else lvd (15 - v).toNat
theorem lvl_bd (v : Int) : 0 ≤ lvl v ∧ lvl v ≤ 8192 := by unfold lvl; split; decide; exact lvd_bd _
def lvL : Array Value := #[iv 0, iv 62, iv 89, iv 127, iv 180, iv 255, iv 361, iv 511, iv 723, iv 1023, iv 1447, iv 2047, iv 2895, iv 4095, iv 5792, iv 8192]
theorem lvL_at : ∀ v : Int, 0 ≤ v → v < 16 → lvL[v.toNat]? = some (iv (lvl v)) := by
  intro v h0 h1
  rcases (by omega : v = 0 ∨ v = 1 ∨ v = 2 ∨ v = 3 ∨ v = 4 ∨ v = 5 ∨ v = 6 ∨ v = 7 ∨ v = 8 ∨ v = 9 ∨ v = 10 ∨ v = 11 ∨ v = 12 ∨ v = 13 ∨ v = 14 ∨ v = 15) with rfl | rfl | rfl | rfl | rfl | rfl | rfl | rfl | rfl | rfl | rfl | rfl | rfl | rfl | rfl | rfl <;> rfl
set_option maxHeartbeats 1000000 in
theorem level_any (v : Int) (w : World) (h0 : 0 ≤ v) (h1 : v ≤ 15) : Calls Try.prog 34 #[iv v] w fun e w' => e = .returned (iv (lvl v)) ∧ w = w' := by
  by_cases h : v ≤ 0
  · rw [show lvl v = 0 from if_pos h]
    go_enter Try.func34, Try.ntmps34
    go_wp2
    go_ret
    exact ⟨rfl, rfl⟩
  · go_enter Try.func34, Try.ntmps34
    go_wp2
    go_loop [3, 4] (fun x i => ∃ d : Nat, v + d ≤ 15 ∧ i = iv (15 - d) ∧ x = iv (lvd d)) (fun _ i => (intOf i).toNat)
    case atStart => exact ⟨0, by omega, rfl, rfl⟩
    case round =>
      obtain ⟨d, hd, rfl, rfl⟩ := hrel
      have hb := lvd_bd d
      obtain ⟨hb0, hb1⟩ := hb
      by_cases hlt : v < 15 - (d : Int)
      · have e : lvd d * 46341 / 65536 = lvd (d + 1) := rfl
        have E := Lib.hid e
        clear e
        go_wp2
        exact ⟨⟨d + 1, by omega, by go_num, by rw [E.out]⟩, by simp [intOf]; omega⟩
      · have e : lvl v = lvd d := by unfold lvl; rw [if_neg (by omega)]; congr 1; omega
        have E := Lib.hid e
        clear e
        go_wp2
        go_ret
        exact ⟨by rw [E.out]; rfl, rfl⟩
def lvA (k : Nat) : Array Value := #[.int .i64 (if k < 0 then 0 else 0), .int .i64 (if k < 1 then 62 else 0), .int .i64 (if k < 2 then 89 else 0), .int .i64 (if k < 3 then 127 else 0), .int .i64 (if k < 4 then 180 else 0), .int .i64 (if k < 5 then 255 else 0), .int .i64 (if k < 6 then 361 else 0), .int .i64 (if k < 7 then 511 else 0), .int .i64 (if k < 8 then 723 else 0), .int .i64 (if k < 9 then 1023 else 0), .int .i64 (if k < 10 then 1447 else 0), .int .i64 (if k < 11 then 2047 else 0), .int .i64 (if k < 12 then 2895 else 0), .int .i64 (if k < 13 then 4095 else 0), .int .i64 (if k < 14 then 5792 else 0), .int .i64 (if k < 15 then 8192 else 0)]
def lvW (w : World) (k : Nat) : World := (w.alloc (Obj.cells #[.int .i64 0, .int .i64 0, .int .i64 0, .int .i64 0, .int .i64 0, .int .i64 0, .int .i64 0, .int .i64 0, .int .i64 0, .int .i64 0, .int .i64 0, .int .i64 0, .int .i64 0, .int .i64 0, .int .i64 0, .int .i64 0] 65)).alloc (Obj.cells (lvA k) 65)
set_option maxHeartbeats 4000000 in
set_option maxRecDepth 100000 in
theorem lev (w : World) : Calls Try.prog 33 #[] w fun e w' => e = .returned (.agg #[.int .i64 0, .int .i64 62, .int .i64 89, .int .i64 127, .int .i64 180, .int .i64 255, .int .i64 361, .int .i64 511, .int .i64 723, .int .i64 1023, .int .i64 1447, .int .i64 2047, .int .i64 2895, .int .i64 4095, .int .i64 5792, .int .i64 8192]) ∧ Below w.heap.size w w' := by
  go_enter Try.func33, Try.ntmps33
  go_wp2
  go_loopw [2] (fun v wr => ∃ k : Nat, k ≤ 14 ∧ v = .int .i64 k ∧ wr = lvW w k) (fun v _ => (intOf v).toNat)
  case atStart => exact ⟨14, by omega, rfl, rfl⟩
  case round =>
    obtain ⟨k, hk, rfl, rfl⟩ := hrel
    rcases (by omega : k = 0 ∨ k = 1 ∨ k = 2 ∨ k = 3 ∨ k = 4 ∨ k = 5 ∨ k = 6 ∨ k = 7 ∨ k = 8 ∨ k = 9 ∨ k = 10 ∨ k = 11 ∨ k = 12 ∨ k = 13 ∨ k = 14) with rfl | rfl | rfl | rfl | rfl | rfl | rfl | rfl | rfl | rfl | rfl | rfl | rfl | rfl | rfl
    · simp only [lvW, lvA, Int.natCast_zero]
      go_wp2
      refine bodyPost_ret (results_cell_row rfl _ _ w.heap.size 65 _ (0, 0) _ rfl ((Below.heap_alloc _ _ _ (by simp)).trans (heap_alloc_new w _)) Try.underlying65 rfl (by kernel_rfl)) rfl ⟨rfl, ?_⟩
      exact ((Below.refl _ _).alloc (Nat.le_refl _) _).alloc (by simp) _
    · simp only [lvW, lvA]
      go_wp2
      exact ⟨⟨0, by omega, rfl, by first | rfl | (simp [lvW, lvA]; done)⟩, by simp [intOf]⟩
    · simp only [lvW, lvA]
      go_wp2
      exact ⟨⟨1, by omega, rfl, by first | rfl | (simp [lvW, lvA]; done)⟩, by simp [intOf]⟩
    · simp only [lvW, lvA]
      go_wp2
      exact ⟨⟨2, by omega, rfl, by first | rfl | (simp [lvW, lvA]; done)⟩, by simp [intOf]⟩
    · simp only [lvW, lvA]
      go_wp2
      exact ⟨⟨3, by omega, rfl, by first | rfl | (simp [lvW, lvA]; done)⟩, by simp [intOf]⟩
    · simp only [lvW, lvA]
      go_wp2
      exact ⟨⟨4, by omega, rfl, by first | rfl | (simp [lvW, lvA]; done)⟩, by simp [intOf]⟩
    · simp only [lvW, lvA]
      go_wp2
      exact ⟨⟨5, by omega, rfl, by first | rfl | (simp [lvW, lvA]; done)⟩, by simp [intOf]⟩
    · simp only [lvW, lvA]
      go_wp2
      exact ⟨⟨6, by omega, rfl, by first | rfl | (simp [lvW, lvA]; done)⟩, by simp [intOf]⟩
    · simp only [lvW, lvA]
      go_wp2
      exact ⟨⟨7, by omega, rfl, by first | rfl | (simp [lvW, lvA]; done)⟩, by simp [intOf]⟩
    · simp only [lvW, lvA]
      go_wp2
      exact ⟨⟨8, by omega, rfl, by first | rfl | (simp [lvW, lvA]; done)⟩, by simp [intOf]⟩
    · simp only [lvW, lvA]
      go_wp2
      exact ⟨⟨9, by omega, rfl, by first | rfl | (simp [lvW, lvA]; done)⟩, by simp [intOf]⟩
    · simp only [lvW, lvA]
      go_wp2
      exact ⟨⟨10, by omega, rfl, by first | rfl | (simp [lvW, lvA]; done)⟩, by simp [intOf]⟩
    · simp only [lvW, lvA]
      go_wp2
      exact ⟨⟨11, by omega, rfl, by first | rfl | (simp [lvW, lvA]; done)⟩, by simp [intOf]⟩
    · simp only [lvW, lvA]
      go_wp2
      exact ⟨⟨12, by omega, rfl, by first | rfl | (simp [lvW, lvA]; done)⟩, by simp [intOf]⟩
    · simp only [lvW, lvA]
      go_wp2
      exact ⟨⟨13, by omega, rfl, by first | rfl | (simp [lvW, lvA]; done)⟩, by simp [intOf]⟩
end Go.Proofs.Ytfpgidflaaefeaa.CH

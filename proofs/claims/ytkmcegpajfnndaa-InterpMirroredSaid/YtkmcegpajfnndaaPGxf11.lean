/- Written by a program of this session (wip/tools/xprint.py, over the functions of the kit's print): functions of the given program as Lean functions, each with its contract, or a law's row; no condition. -/
import Derived.Test.YtkmcegpajfnndaaPGx0
import Derived.Test.YtkmcegpajfnndaaPGxf22
namespace Go.Proofs.Ytkmcegpajfnndaa.PG
open Go.RowKit Go.Proofs.YtkmcegpajfnndaaW.PrintWords Go.Proofs.YtkmcegpajfnndaaW.PrintLast Go.Proofs.YtkmcegpajfnndaaW.PrintMore
attribute [local go_sem] max2_int min2_int max_two min_two max_three min_three max_four min_four   -- for this text's walks alone
set_option linter.unusedVariables false
set_option linter.unusedSimpArgs false

/-! ### interp_Weights: function 11 (a text of this session) -/
def interp_Weights.f (a0 : Int) (a1 : Int) : Option (List Int × Int × Int) := if a0 < 0 then some ([], 0, 6) else if 4 < a0 then some ([], 0, 6) else if a1 < 0 then some ([], 0, 5) else if 255 < a1 then some ([], 0, 5) else some (wts a0.toNat a1, shf a0.toNat, 0)
set_option maxHeartbeats 4000000 in
theorem weights_row (k : Nat) (hk : k ≤ 4) (a1 : Int) (d0 : 0 ≤ a1) (d1 : a1 ≤ 255) (w : World) :
    Calls Try.prog 11 #[.int .i64 k, .int .i64 a1] w fun e w' => ∃ g_ : Nat, e = .returned (.tuple #[.slice (some ⟨g_, 0, none⟩) 8 8, .int .i64 (shf k), .int .i64 0]) ∧ Kd.R (Kd.int .i64) 53 w' w.heap.size (fun k_ => (w.heap.size ≤ k_)) (.slice (some ⟨g_, 0, none⟩) 8 8) (wts k a1) ∧ Below w.heap.size w w' := by
  rcases (by omega : k = 0 ∨ k = 1 ∨ k = 2 ∨ k = 3 ∨ k = 4) with rfl | rfl | rfl | rfl | rfl
  · have hi : ∀ w, (Instr.index 51 curvesV (.int .i64 0)).run Try.prog w = .ok (.agg #[.func (Fn.func 36) #[] #[], .int .i64 (0)]) w := fun _ => by kernel_rfl
    show Calls Try.prog 11 #[.int .i64 0, .int .i64 a1] w _
    go_enter Try.func11, Try.ntmps11
    go_wp2_with (first | (go_at_call 22; refine (curves_any _).mono ?_; rintro e w1 ⟨rfl, hb1⟩) | (go_at_call 36; refine (none_any _ _).mono ?_; rintro e w2 ⟨rfl, hb2⟩; have hc1 : w2.cell? ⟨w1.heap.size, 1, none⟩ = some (.int .i64 (0)) := (hb2.cell (p := ⟨w1.heap.size, 1, none⟩) (by simp)).trans (by simp); have hz : w1.heap.size < w2.heap.size := by (have := hb2.size; simp at this; omega)))
    go_quiet (fail)
    go_wp2
    go_ret3
    refine ⟨w2.heap.size, rfl, Kd.R_of_own ⟨rfl, .inr ⟨w2.heap.size, 8, _, rfl, by have := hb1.size; omega, heap_alloc_new w2 _, by simp [wts_len8], by unfold maxLen; omega, rfl, rfl⟩⟩ (fun k_ hk_ => by have h9 := hb1.size; have h8 : w2.heap.size = k_ := (by simpa [Value.ownBlock] using hk_); omega), ?_⟩
    exact pw_below_drewN (((hb1.alloc (by have := hb1.size; omega) _).trans (hb2.mono (by have := hb1.size; simp; omega))).alloc (by have := hb1.size; omega) _) _
  · have hi : ∀ w, (Instr.index 51 curvesV (.int .i64 1)).run Try.prog w = .ok (.agg #[.func (Fn.func 37) #[] #[], .int .i64 (8)]) w := fun _ => by kernel_rfl
    show Calls Try.prog 11 #[.int .i64 1, .int .i64 a1] w _
    go_enter Try.func11, Try.ntmps11
    go_wp2_with (first | (go_at_call 22; refine (curves_any _).mono ?_; rintro e w1 ⟨rfl, hb1⟩) | (go_at_call 37; refine (linear_any _ _ d0 d1).mono ?_; rintro e w2 ⟨rfl, hb2⟩; have hc1 : w2.cell? ⟨w1.heap.size, 1, none⟩ = some (.int .i64 (8)) := (hb2.cell (p := ⟨w1.heap.size, 1, none⟩) (by simp)).trans (by simp); have hz : w1.heap.size < w2.heap.size := by (have := hb2.size; simp at this; omega)))
    go_quiet (fail)
    go_wp2
    go_ret3
    refine ⟨w2.heap.size, rfl, Kd.R_of_own ⟨rfl, .inr ⟨w2.heap.size, 8, _, rfl, by have := hb1.size; omega, heap_alloc_new w2 _, by simp [wts_len8], by unfold maxLen; omega, rfl, rfl⟩⟩ (fun k_ hk_ => by have h9 := hb1.size; have h8 : w2.heap.size = k_ := (by simpa [Value.ownBlock] using hk_); omega), ?_⟩
    exact pw_below_drewN (((hb1.alloc (by have := hb1.size; omega) _).trans (hb2.mono (by have := hb1.size; simp; omega))).alloc (by have := hb1.size; omega) _) _
  · have hi : ∀ w, (Instr.index 51 curvesV (.int .i64 2)).run Try.prog w = .ok (.agg #[.func (Fn.func 38) #[] #[], .int .i64 (25)]) w := fun _ => by kernel_rfl
    show Calls Try.prog 11 #[.int .i64 2, .int .i64 a1] w _
    go_enter Try.func11, Try.ntmps11
    go_wp2_with (first | (go_at_call 22; refine (curves_any _).mono ?_; rintro e w1 ⟨rfl, hb1⟩) | (go_at_call 38; refine (cubic_any _ _ d0 d1).mono ?_; rintro e w2 ⟨rfl, hb2⟩; have hc1 : w2.cell? ⟨w1.heap.size, 1, none⟩ = some (.int .i64 (25)) := (hb2.cell (p := ⟨w1.heap.size, 1, none⟩) (by simp)).trans (by simp); have hz : w1.heap.size < w2.heap.size := by (have := hb2.size; simp at this; omega)))
    go_quiet (fail)
    go_wp2
    go_ret3
    refine ⟨w2.heap.size, rfl, Kd.R_of_own ⟨rfl, .inr ⟨w2.heap.size, 8, _, rfl, by have := hb1.size; omega, heap_alloc_new w2 _, by simp [wts_len8], by unfold maxLen; omega, rfl, rfl⟩⟩ (fun k_ hk_ => by have h9 := hb1.size; have h8 : w2.heap.size = k_ := (by simpa [Value.ownBlock] using hk_); omega), ?_⟩
    exact pw_below_drewN (((hb1.alloc (by have := hb1.size; omega) _).trans (hb2.mono (by have := hb1.size; simp; omega))).alloc (by have := hb1.size; omega) _) _
  · have hi : ∀ w, (Instr.index 51 curvesV (.int .i64 3)).run Try.prog w = .ok (.agg #[.func (Fn.func 39) #[] #[], .int .i64 (17)]) w := fun _ => by kernel_rfl
    show Calls Try.prog 11 #[.int .i64 3, .int .i64 a1] w _
    go_enter Try.func11, Try.ntmps11
    go_wp2_with (first | (go_at_call 22; refine (curves_any _).mono ?_; rintro e w1 ⟨rfl, hb1⟩) | (go_at_call 39; refine (quadratic_any _ _ d0 d1).mono ?_; rintro e w2 ⟨rfl, hb2⟩; have hc1 : w2.cell? ⟨w1.heap.size, 1, none⟩ = some (.int .i64 (17)) := (hb2.cell (p := ⟨w1.heap.size, 1, none⟩) (by simp)).trans (by simp); have hz : w1.heap.size < w2.heap.size := by (have := hb2.size; simp at this; omega)))
    go_quiet (fail)
    go_wp2
    go_ret3
    refine ⟨w2.heap.size, rfl, Kd.R_of_own ⟨rfl, .inr ⟨w2.heap.size, 8, _, rfl, by have := hb1.size; omega, heap_alloc_new w2 _, by simp [wts_len8], by unfold maxLen; omega, rfl, rfl⟩⟩ (fun k_ hk_ => by have h9 := hb1.size; have h8 : w2.heap.size = k_ := (by simpa [Value.ownBlock] using hk_); omega), ?_⟩
    exact pw_below_drewN (((hb1.alloc (by have := hb1.size; omega) _).trans (hb2.mono (by have := hb1.size; simp; omega))).alloc (by have := hb1.size; omega) _) _
  · have hi : ∀ w, (Instr.index 51 curvesV (.int .i64 4)).run Try.prog w = .ok (.agg #[.func (Fn.func 40) #[] #[], .int .i64 (-1)]) w := fun _ => by kernel_rfl
    show Calls Try.prog 11 #[.int .i64 4, .int .i64 a1] w _
    go_enter Try.func11, Try.ntmps11
    go_wp2_with (first | (go_at_call 22; refine (curves_any _).mono ?_; rintro e w1 ⟨rfl, hb1⟩) | (go_at_call 40; refine (wide_any _ _ d0 d1).mono ?_; rintro e w2 ⟨rfl, hb2⟩; have hc1 : w2.cell? ⟨w1.heap.size, 1, none⟩ = some (.int .i64 (-1)) := (hb2.cell (p := ⟨w1.heap.size, 1, none⟩) (by simp)).trans (by simp); have hz : w1.heap.size < w2.heap.size := by (have := hb2.size; simp at this; omega)))
    go_quiet (fail)
    go_wp2
    go_ret3
    refine ⟨w2.heap.size, rfl, Kd.R_of_own ⟨rfl, .inr ⟨w2.heap.size, 8, _, rfl, by have := hb1.size; omega, heap_alloc_new w2 _, by simp [wts_len8], by unfold maxLen; omega, rfl, rfl⟩⟩ (fun k_ hk_ => by have h9 := hb1.size; have h8 : w2.heap.size = k_ := (by simpa [Value.ownBlock] using hk_); omega), ?_⟩
    exact pw_below_drewN (((hb1.alloc (by have := hb1.size; omega) _).trans (hb2.mono (by have := hb1.size; simp; omega))).alloc (by have := hb1.size; omega) _) _
theorem interp_Weights.calls (a0 : Int) (a1 : Int) (r1 : List Int) (r2 : Int) (r3 : Int) (w : World) (h : interp_Weights.f a0 a1 = some (r1, r2, r3)) :
    Calls Try.prog 11 #[.int .i64 a0, .int .i64 a1] w fun e w' => ∃ v0_ : Value, e = .returned (.tuple #[v0_, .int .i64 r2, .int .i64 r3]) ∧ Kd.V (Kd.int .i64) 3 w' w.heap.size (fun k_ => (w.heap.size ≤ k_)) v0_ r1 ∧ Below w.heap.size w w' := by
  unfold interp_Weights.f at h
  by_cases c1 : a0 < 0
  · rw [if_pos c1] at h; simp only [Option.some.injEq, Prod.mk.injEq] at h; obtain ⟨rfl, rfl, rfl⟩ := h
    go_enter Try.func11, Try.ntmps11
    go_wp2
    go_ret3
    exact ⟨_, rfl, Kd.V_nil _ _ _ _ _, Below.refl _ _⟩
  by_cases c2 : 4 < a0
  · rw [if_neg c1, if_pos c2] at h; simp only [Option.some.injEq, Prod.mk.injEq] at h; obtain ⟨rfl, rfl, rfl⟩ := h
    go_enter Try.func11, Try.ntmps11
    go_wp2
    go_ret3
    exact ⟨_, rfl, Kd.V_nil _ _ _ _ _, Below.refl _ _⟩
  by_cases c3 : a1 < 0
  · rw [if_neg c1, if_neg c2, if_pos c3] at h; simp only [Option.some.injEq, Prod.mk.injEq] at h; obtain ⟨rfl, rfl, rfl⟩ := h
    go_enter Try.func11, Try.ntmps11
    go_wp2
    go_ret3
    exact ⟨_, rfl, Kd.V_nil _ _ _ _ _, Below.refl _ _⟩
  by_cases c4 : 255 < a1
  · rw [if_neg c1, if_neg c2, if_neg c3, if_pos c4] at h; simp only [Option.some.injEq, Prod.mk.injEq] at h; obtain ⟨rfl, rfl, rfl⟩ := h
    go_enter Try.func11, Try.ntmps11
    go_wp2
    go_ret3
    exact ⟨_, rfl, Kd.V_nil _ _ _ _ _, Below.refl _ _⟩
  rw [if_neg c1, if_neg c2, if_neg c3, if_neg c4] at h; simp only [Option.some.injEq, Prod.mk.injEq] at h
  obtain ⟨rfl, rfl, rfl⟩ := h
  obtain ⟨k, hk, rfl⟩ : ∃ k : Nat, k ≤ 4 ∧ a0 = k := ⟨a0.toNat, by omega, by omega⟩
  exact (weights_row k hk a1 (by omega) (by omega) w).mono fun e w' ⟨g_, he, hr, hb⟩ => ⟨.slice (some ⟨g_, 0, none⟩) 8 8, he, (Kd.R_V hr : Kd.V (Kd.int .i64) 53 w' w.heap.size (fun k_ => w.heap.size ≤ k_) (.slice (some ⟨g_, 0, none⟩) 8 8) (wts k a1)), hb⟩

end Go.Proofs.Ytkmcegpajfnndaa.PG

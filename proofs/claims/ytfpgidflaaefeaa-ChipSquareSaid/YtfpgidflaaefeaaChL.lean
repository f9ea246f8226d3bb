/- A law about the tone chip: the values lie in 0 to three times the highest level, for any chip and number of steps. -/
import Derived.Test.YtfpgidflaaefeaaChK
namespace Go.Proofs.Ytfpgidflaaefeaa.CH
open Go.RowKit Go.Proofs.YtfpgidflaaefeaaW.PrintLast
set_option linter.unusedVariables false
set_option linter.unusedSimpArgs false
theorem vals_get (t : T) (n j : Nat) (h : j < n) : (t.vals n).getD j 0 = (t.run (j + 1)).out 3 := by
  simp [T.vals, h]
set_option maxHeartbeats 8000000 in
set_option maxRecDepth 100000 in
theorem bounds_any (t : T) (n : Int) (w : World) : Calls Try.prog 6 #[.agg t.cs, iv n] w fun e w' => e = .returned (.bool true) ∧ Below w.heap.size w w' := by
  have HA := Lib.hid (heap_alloc_new w (Obj.cells t.cs 35))
  by_cases h0 : n < 0
  · go_enter Try.func6, Try.ntmps6
    go_wp2
    go_ret
    exact ⟨rfl, ((Below.refl _ _).alloc (Nat.le_refl _) _)⟩
  by_cases h1 : 1000 < n
  · have d0 : decide (n < 0) = false := decide_eq_false h0
    go_enter Try.func6, Try.ntmps6
    go_wp2
    go_ret
    exact ⟨rfl, ((Below.refl _ _).alloc (Nat.le_refl _) _)⟩
  have d0 : decide (n < 0) = false := decide_eq_false h0
  have d1 : decide (1000 < n) = false := decide_eq_false h1
  by_cases ht : t.Ok
  · obtain ⟨k, rfl⟩ := Int.eq_ofNat_of_zero_le (by omega : 0 ≤ n)
    have hk : k ≤ 1000 := by omega
    clear h0 h1
    go_enter Try.func6, Try.ntmps6
    go_wp2_with (first
      | (refine gdOn (by rfl) ?_; refine wpList_load_row rfl 35 (.tmp 2) rfl (w.heap.size) rfl 35 _ (0, 0) _ HA.out Try.underlying35 rfl (T.i35 _) ?_)
      | (refine wpList_load_row rfl 35 (.tmp 2) rfl (w.heap.size) rfl 35 _ (0, 0) _ HA.out Try.underlying35 rfl (T.i35 _) ?_)
      | (go_at_call 19; (with_reducible refine (right_yes t ht _).mono ?_); rintro e w5 ⟨rfl, hb5⟩; have A5 := Lib.hid (bkBelow HA.out hb5); have B5 := bdT ((Below.refl _ _).alloc (Nat.le_refl _) _) (by simp) hb5; clear HA hb5)
      | (refine wpList_load_row rfl 35 (.tmp 2) rfl (w.heap.size) rfl 35 _ (0, 0) _ A5.out Try.underlying35 rfl (T.i35 _) ?_)
      | (go_at_call 20; (with_reducible refine (run_fine t ht k (by omega) _).mono ?_); rintro e w6 ⟨g, rfl, O6, hb6⟩; have B6 := bdT B5 B5.size hb6; have Z6 := Lib.hid (heap_alloc_new w6 (Obj.cells #[iv 0, iv 0, iv 0, iv 0, iv 0, iv 0, iv 0, iv 0, iv 0, iv 0, iv 0, iv 0, iv 0, iv 0, iv 0, iv 0, iv 0, iv 0, iv 0, iv 0, iv 0, iv 0, iv 0, iv 0] 35)); have G6 := Lib.hid (ownFarA O6); clear A5)
      | (refine wpList_store_row rfl 35 (.tmp 6) (.tmp 26) rfl (w6.heap.size) (T.run t k).cs rfl rfl 35 _ Z6.out (T.i35 _) (T.sz T.zero _) (T.one _) ?_))
    have g6 := G6.out
    have O7 := ownFar (ownBelow O6 ((Below.refl w6.heap.size w6).alloc (Nat.le_refl _) (Obj.cells #[iv 0, iv 0, iv 0, iv 0, iv 0, iv 0, iv 0, iv 0, iv 0, iv 0, iv 0, iv 0, iv 0, iv 0, iv 0, iv 0, iv 0, iv 0, iv 0, iv 0, iv 0, iv 0, iv 0, iv 0] 35))) w6.heap.size (by omega) (T.run t k).cs
    have A7 := setRow_heap _ _ _ (T.run t k).cs _ _ Z6.out
    have B7 := below_setRow (B6.alloc B6.size (Obj.cells #[iv 0, iv 0, iv 0, iv 0, iv 0, iv 0, iv 0, iv 0, iv 0, iv 0, iv 0, iv 0, iv 0, iv 0, iv 0, iv 0, iv 0, iv 0, iv 0, iv 0, iv 0, iv 0, iv 0, iv 0] 35)) (g := w6.heap.size) B6.size (T.run t k).cs
    clear O6 Z6 G6 B6 g6
    go_loopw [30] (fun v wr => ∃ j : Nat, j ≤ k ∧ v = iv j ∧ wr.ownsRow w5.heap.size 3 1 (.slice (some ⟨g, 0, none⟩) k k) k ((t.vals k).map iv) ∧ wr.heap[w6.heap.size]? = some (.cells (T.run t k).cs 35 (0, 0)) ∧ Below w.heap.size w wr) (fun v _ => k - (intOf v).toNat)
    case atStart => exact ⟨0, by omega, rfl, O7, A7, B7⟩
    case round =>
      obtain ⟨j, hj, rfl, hO, hA, hB⟩ := hrel
      clear O7 A7 B7
      by_cases hlt : j < k
      · have hc := cellsGet hO j hlt
        rw [vals_get t k j hlt] at hc
        obtain ⟨x0, x1⟩ := out_bd (t.run (j + 1))
        generalize (t.run (j + 1)).out 3 = x at hc x0 x1
        have j0 : (0 : Int) ≤ (j : Int) := by omega
        have j1 : (j : Int) < (k : Int) := by omega
        have d2 : decide (x < 0) = false := decide_eq_false (by omega)
        have d3 : decide (24576 < x) = false := decide_eq_false (by omega)
        go_wp2
        exact ⟨⟨j + 1, by omega, by go_num, hO, hA, hB⟩, by simp [intOf]; omega⟩
      · have j1 : decide ((j : Int) < (k : Int)) = false := decide_eq_false (by omega)
        have HA6 := Lib.hid hA
        have ek : ((k : Int) == (k : Int)) = true := by simp
        clear hA
        go_wp2_with (first
          | (refine gdOn (by rfl) ?_; refine wpList_load_row rfl 35 (.tmp 6) rfl (w6.heap.size) rfl 35 _ (0, 0) _ HA6.out Try.underlying35 rfl (T.i35 _) ?_)
          | (go_at_call 19; (with_reducible refine (right_yes _ (run_ok ht k) _).mono ?_); rintro e w9 ⟨rfl, hb9⟩))
        go_ret
        exact ⟨rfl, bdT hB hB.size hb9⟩
  · go_enter Try.func6, Try.ntmps6
    go_wp2_with (first
      | (refine gdOn (by rfl) ?_; refine wpList_load_row rfl 35 (.tmp 2) rfl (w.heap.size) rfl 35 _ (0, 0) _ HA.out Try.underlying35 rfl (T.i35 _) ?_)
      | (go_at_call 19; (with_reducible refine (right_no t ht _).mono ?_); rintro e w5 ⟨rfl, hb5⟩))
    go_ret
    exact ⟨rfl, bdT ((Below.refl _ _).alloc (Nat.le_refl _) _) (by simp) hb5⟩
end Go.Proofs.Ytfpgidflaaefeaa.CH

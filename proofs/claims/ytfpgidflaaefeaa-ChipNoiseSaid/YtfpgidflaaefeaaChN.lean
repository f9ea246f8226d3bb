/- A law about the tone chip: the noise's bits are never all 0, and come back after 131,071 turns and not before. -/
import Derived.Test.YtfpgidflaaefeaaChK
import Derived.Test.YtfpgidflaaefeaaChP
namespace Go.Proofs.Ytfpgidflaaefeaa.CH
open Go.RowKit Go.Proofs.YtfpgidflaaefeaaW.PrintLast
set_option linter.unusedVariables false
set_option linter.unusedSimpArgs false
/-- a round's number -/
def IsK (i : Int) (k : Nat) : Prop := i = k + 1
theorem itN_bd : ∀ k, itN 1 k < 131072
  | 0 => by decide
  | k + 1 => by have := itN_bd k; show nzN (itN 1 k) < 131072; unfold nzN; omega
theorem noise_run : ∀ k, (T.new.run (2 * k)).r6 = 0 ∧ (T.new.run (2 * k)).nc = 0 ∧ (T.new.run (2 * k)).n = (itN 1 k : Nat)
  | 0 => ⟨rfl, rfl, rfl⟩
  | k + 1 => by
    obtain ⟨h1, h2, h3⟩ := noise_run k
    have e : T.new.run (2 * (k + 1)) = (T.new.run (2 * k)).step.step := rfl
    rw [e]
    generalize T.new.run (2 * k) = t at h1 h2 h3
    have a1 : t.step.r6 = 0 := h1
    have a2 : t.step.nc = 1 := by show nx t.nc (2 * mx1 (t.r6 % 32)) = 1; rw [h1, h2]; decide
    have a3 : t.step.n = t.n := by show (if du t.nc (2 * mx1 (t.r6 % 32)) then nz t.n else t.n) = t.n; rw [h1, h2]; rfl
    refine ⟨h1, ?_, ?_⟩
    · show nx t.step.nc (2 * mx1 (t.step.r6 % 32)) = 0
      rw [a1, a2]; decide
    · show (if du t.step.nc (2 * mx1 (t.step.r6 % 32)) then nz t.step.n else t.step.n) = _
      rw [a1, a2, a3, h3, show du 1 (2 * mx1 (0 % 32)) = true from by decide, if_pos rfl, nz_nat (itN_bd k)]
      rfl
set_option maxHeartbeats 8000000 in
set_option maxRecDepth 100000 in
theorem noise_any (w : World) : Calls Try.prog 7 #[] w fun e w' => e = .returned (.bool true) ∧ Below w.heap.size w w' := by
  obtain ⟨M, hM⟩ : ∃ M : Nat, M = 131072 := ⟨_, rfl⟩
  have HM := Lib.hid hM
  clear hM
  go_enter Try.func7, Try.ntmps7
  go_wp2_with (first
    | (go_at_call 21; (with_reducible refine (new_any _).mono ?_); rintro e w1 ⟨rfl, hb1⟩; have Z1 := Lib.hid (heap_alloc_new w1 (Obj.cells #[iv 0, iv 0, iv 0, iv 0, iv 0, iv 0, iv 0, iv 0, iv 0, iv 0, iv 0, iv 0, iv 0, iv 0, iv 0, iv 0, iv 0, iv 0, iv 0, iv 0, iv 0, iv 0, iv 0, iv 0] 35)); have B1 := hb1.alloc hb1.size (Obj.cells #[iv 0, iv 0, iv 0, iv 0, iv 0, iv 0, iv 0, iv 0, iv 0, iv 0, iv 0, iv 0, iv 0, iv 0, iv 0, iv 0, iv 0, iv 0, iv 0, iv 0, iv 0, iv 0, iv 0, iv 0] 35))
    | (refine wpList_store_row rfl 35 (.tmp 1) (.tmp 6) rfl (w1.heap.size) T.new.cs rfl rfl 35 _ Z1.out (T.i35 _) (T.sz T.zero _) (T.one _) ?_; have A2 := setRow_heap _ _ _ T.new.cs _ _ Z1.out; have B2 := below_setRow B1 (g := w1.heap.size) hb1.size T.new.cs; have c21 := (bkCell A2 21).trans (show T.new.cs[21]? = some (iv 1) from rfl)))
  go_loopw [2] (fun v wr => ∃ (k : Nat) (i : Int), k + 1 ≤ M ∧ IsK i k ∧ v = iv i ∧ wr.heap[w1.heap.size]? = some (.cells (T.new.run (2 * k)).cs 35 (0, 0)) ∧ Below w.heap.size w wr) (fun v _ => M - (intOf v).toNat)
  case atStart => exact ⟨0, 1, by have := HM.out; omega, rfl, rfl, A2, B2⟩
  case round =>
    obtain ⟨k, i, hk, hik, rfl, hA, hB⟩ := hrel
    have hik0 : i = k + 1 := hik
    clear A2 B2 c21 Z1 B1
    have hM := HM.out
    by_cases hlt : k < 131071
    · have HA := Lib.hid hA
      have ht := run_ok new_ok (2 * k)
      have R2 : ∀ W : World, Calls Try.prog 20 #[.agg (T.new.run (2 * k)).cs, iv 2] W fun e w' => ∃ g, e = .returned (.tuple #[.slice (some ⟨g, 0, none⟩) 2 2, .agg (T.new.run (2 * (k + 1))).cs, iv 0]) ∧ w'.ownsRow W.heap.size 3 1 (.slice (some ⟨g, 0, none⟩) 2 2) 2 (((T.new.run (2 * k)).vals 2).map iv) ∧ Below W.heap.size W w' := fun W => run_fine _ ht 2 (by omega) W
      have hn := (noise_run (k + 1)).2.2
      have hok := run_ok new_ok (2 * (k + 1))
      obtain ⟨t, ht2⟩ : ∃ t, t = T.new.run (2 * (k + 1)) := ⟨_, rfl⟩
      rw [← ht2] at hn hok
      simp only [← ht2] at R2
      have HT2 := Lib.hid ht2
      have R2H := Lib.hid R2
      clear hA ht2 R2
      have n0 : 1 ≤ t.n := hok.on.1
      have n1 : t.n ≤ 131071 := hok.on.2
      have d0 : decide (t.n < 1) = false := decide_eq_false (by omega)
      have d1 : decide (131071 < t.n) = false := decide_eq_false (by omega)
      have d2 : (t.n == 1) = (i == 131071) := by
        rw [hn, hik0]
        by_cases he : k + 1 = 131071
        · rw [he, noise_period.1]
          have : (k : Int) + 1 = 131071 := by omega
          rw [this]; rfl
        · have := noise_period.2 (k + 1) (by omega) (by omega)
          have h1 : ((itN 1 (k + 1) : Nat) == (1 : Int)) = false := by simp; omega
          have h2 : ((k : Int) + 1 == 131071) = false := by simp; omega
          rw [h1, h2]
      have d3 : i ≤ 131071 := by omega
      have d4 : 0 ≤ i := by omega
      clear hn hok
      have d5 : (!((t.n == 1) == (i == 131071))) = false := by rw [d2]; simp
      clear d2
      have HI := Lib.hid hik0
      have HK := Lib.hid hlt
      clear hlt hk hM hik0
      go_wp2_with (first
        | (refine wpList_load_row rfl 35 (.tmp 1) rfl (w1.heap.size) rfl 35 _ (0, 0) _ HA.out Try.underlying35 rfl (T.i35 _) ?_)
        | (go_at_call 20; (with_reducible refine (R2H.out _).mono ?_); rintro e w6 ⟨g, rfl, O6, hb6⟩; have A6 := Lib.hid (bkBelow HA.out hb6); have Z6 := Lib.hid (heap_alloc_new w6 (Obj.cells #[iv 0, iv 0, iv 0, iv 0, iv 0, iv 0, iv 0, iv 0, iv 0, iv 0, iv 0, iv 0, iv 0, iv 0, iv 0, iv 0, iv 0, iv 0, iv 0, iv 0, iv 0, iv 0, iv 0, iv 0] 35)); have B6 := (bdT hB hB.size hb6).alloc (bdT hB hB.size hb6).size (Obj.cells #[iv 0, iv 0, iv 0, iv 0, iv 0, iv 0, iv 0, iv 0, iv 0, iv 0, iv 0, iv 0, iv 0, iv 0, iv 0, iv 0, iv 0, iv 0, iv 0, iv 0, iv 0, iv 0, iv 0, iv 0] 35); clear O6)
        | (refine wpList_store_row rfl 35 (.tmp 4) (.tmp 18) rfl (w6.heap.size) t.cs rfl rfl 35 _ Z6.out (T.i35 _) (T.sz T.zero _) (T.one _) ?_; have A7 := Lib.hid ((setRow_other (w6.alloc (Obj.cells #[iv 0, iv 0, iv 0, iv 0, iv 0, iv 0, iv 0, iv 0, iv 0, iv 0, iv 0, iv 0, iv 0, iv 0, iv 0, iv 0, iv 0, iv 0, iv 0, iv 0, iv 0, iv 0, iv 0, iv 0] 35)) w6.heap.size w1.heap.size t.cs (by have := bkLt A6.out; omega)).trans (bkAlloc A6.out _)); have N7 := Lib.hid (setRow_heap _ _ _ t.cs _ _ Z6.out); have B7 := below_setRow B6 (g := w6.heap.size) (bdT hB hB.size hb6).size t.cs; have c21 := (bkCell N7.out 21).trans (show t.cs[21]? = some (iv t.n) from rfl))
        | (refine wpList_load_row rfl 35 (.tmp 4) rfl (w6.heap.size) rfl 35 _ (0, 0) _ N7.out Try.underlying35 rfl (T.i35 _) ?_)
        | (refine wpList_store_row rfl 35 (.tmp 1) (.tmp 40) rfl (w1.heap.size) t.cs rfl rfl 35 _ A7.out (T.i35 _) (T.sz _ _) (T.one _) ?_))
      have hk1 := HK.out
      have hm1 := HM.out
      have hi1 := HI.out
      exact ⟨⟨k + 1, i + 1, by omega, by show i + 1 = ((k + 1 : Nat) : Int) + 1; omega, rfl, by rw [← HT2.out]; exact setRow_heap _ _ _ _ _ _ A7.out, below_setRow B7 (g := w1.heap.size) hb1.size t.cs⟩, by simp [intOf]; omega⟩
    · have d3 : decide (i ≤ 131071) = false := decide_eq_false (by omega)
      clear hM hlt hk hik0
      go_wp2
      go_ret
      exact ⟨rfl, hB⟩
end Go.Proofs.Ytfpgidflaaefeaa.CH

/- Four operators: sums, tables, valid patches. -/
import Derived.Test.YtfodpoccjdaaaaaReI
namespace Go.Proofs.Ytfodpoccjdaaaaa.CS
open Go.RowKit Go.Proofs.YtfodpoccjdaaaaaW.PrintLast Go.Proofs.Ytfodpoccjdaaaaa.TX Go.Proofs.Ytfodpoccjdaaaaa.PG
set_option linter.unusedVariables false
set_option linter.unusedSimpArgs false
theorem and1 (n : Int) : Go.bits .and .i64 n 1 = n % 2 := by
  have h63 : (BitVec.ofInt 64 1).toNat = 2 ^ 1 - 1 := by decide
  have key : (BitVec.ofInt 64 n &&& BitVec.ofInt 64 1).toNat = (n % ((2 ^ 64 : Nat) : Int)).toNat % 2 ^ 1 := by
    rw [BitVec.toNat_and, BitVec.toNat_ofInt, h63, Nat.and_two_pow_sub_one_eq_mod]
  show IntKind.i64.wrap ((BitVec.ofInt 64 n &&& BitVec.ofInt 64 1).toNat : Nat) = n % 2
  rw [key, IntKind.wrap_i64]
  omega
set_option maxHeartbeats 16000000 in
set_option maxRecDepth 100000 in
theorem sum_any (F : Nat → Int) (g : Nat) (b : Int) (hb0 : 0 ≤ b ∧ b ≤ 15) (hF : ∀ j, j < 4 → -255 ≤ F j ∧ F j ≤ 255) (w : World) (hb : w.heap[g]? = some (.cells (fb_ (fun j => iv (F j)) 4) 110 (0, 0))) :
    Calls Try.prog 104 #[.pointer (some ⟨g, 0, none⟩), iv b] w fun e w' => e = .returned (iv (smK F b 4)) ∧ ∃ m, w' = w.drewN m := by
  have HB := Lib.hid hb
  have HF := Lib.hid hF
  obtain ⟨b0, b1⟩ := hb0
  clear hb hF
  go_enter Try.func104, Try.ntmps104
  go_wp2
  go_loopw [5, 9] (fun d v wr => ∃ k : Nat, k ≤ 4 ∧ v = iv k ∧ d = iv (smK F b k) ∧ ∃ m, wr = w.drewN m) (fun _ v _ => 4 - (intOf v).toNat)
  case atStart => exact ⟨0, by omega, rfl, rfl, 0, rfl⟩
  case round =>
    obtain ⟨k, hk, rfl, rfl, m, rfl⟩ := hrel
    by_cases hlt : k < 4
    · have ha := (bkCell HB.out k).trans (fb_get hlt)
      obtain ⟨f0, f1⟩ := HF.out k hlt
      have hs := smK_bd (F := F) b HF.out k (by omega)
      have SE := Lib.hid (show smK F b (k + 1) = smK F b k + if bitB b k = true then F k else 0 from rfl)
      generalize smK F b k = D at *
      generalize F k = x at *
      have h0 : (0 : Int) ≤ (k : Int) := by omega
      have h1 : (k : Int) < 4 := by omega
      have hbt : (bits BinOp.and IntKind.i64 (b / 2 ^ k) 1 == 1) = bitB b k := by rw [and1]; rfl
      cases hq : bitB b k
      all_goals
        rw [hq] at hbt
        rw [hq] at SE
        clear hq
        go_wp2
        go_quiet (fail)
        go_wp2
        refine ⟨⟨k + 1, by omega, by go_num, ?_, _, rfl⟩, by simp [intOf]; omega⟩
        rw [SE.out]
        simp
    · have h1 : decide ((k : Int) < 4) = false := decide_eq_false (by omega)
      obtain rfl : k = 4 := by omega
      go_wp2
      go_ret
      exact ⟨rfl, m, rfl⟩
def algC : Array Value := #[iv 0, iv 1, iv 2, iv 4, iv 8, iv 0, iv 0, iv 3, iv 4, iv 8, iv 0, iv 0, iv 2, iv 5, iv 8, iv 0, iv 1, iv 0, iv 6, iv 8, iv 0, iv 1, iv 0, iv 4, iv 10, iv 0, iv 1, iv 1, iv 1, iv 14, iv 0, iv 1, iv 0, iv 0, iv 14, iv 0, iv 0, iv 0, iv 0, iv 15]
set_option maxHeartbeats 4000000 in
set_option maxRecDepth 100000 in
theorem alg_any (w : World) : Calls Try.prog 103 #[] w fun e w' => e = .returned (.agg algC) ∧ Below w.heap.size w w' := by
  go_enter Try.func103, Try.ntmps103
  go_wp2_with (refine wpList_store_row rfl 113 (.tmp 0) (.tmp 17) rfl (w.heap.size) algC rfl rfl 113 _ (heap_alloc_new w _) (by kernel_rfl) (by kernel_rfl) (by kernel_rfl) ?_)
  refine bodyPost_ret (results_cell_row rfl _ _ (w.heap.size) 113 _ (0, 0) _ rfl (setRow_heap _ _ _ _ _ _ (heap_alloc_new w _)) Try.underlying113 rfl (by kernel_rfl)) rfl ⟨rfl, below_setRow ((Below.refl _ _).alloc (Nat.le_refl _) _) (Nat.le_refl _) _⟩
def wir (a : Nat) : Array Value := fb_ (fun j => if j < 4 then iv (byT a j) else iv (outT a)) 5
theorem index_alg (a : Nat) (h : a < 8) (w : World) : (Instr.index 113 (.agg algC) (.int .i64 (a : Int))).run Try.prog w = .ok (.agg (wir a)) w := by
  rcases (by omega : a = 0 ∨ a = 1 ∨ a = 2 ∨ a = 3 ∨ a = 4 ∨ a = 5 ∨ a = 6 ∨ a = 7) with rfl | rfl | rfl | rfl | rfl | rfl | rfl | rfl <;> kernel_rfl
theorem byT_bd (a i : Nat) : a < 8 → i < 4 → 0 ≤ byT a i ∧ byT a i ≤ 15 := by
  have h : ∀ a, a < 8 → ∀ i, i < 4 → 0 ≤ byT a i ∧ byT a i ≤ 15 := by decide +kernel
  exact fun h1 h2 => h a h1 i h2
theorem outT_bd (a : Nat) : a < 8 → 0 ≤ outT a ∧ outT a ≤ 15 := by
  have h : ∀ a, a < 8 → 0 ≤ outT a ∧ outT a ≤ 15 := by decide +kernel
  exact h a
end Go.Proofs.Ytfodpoccjdaaaaa.CS

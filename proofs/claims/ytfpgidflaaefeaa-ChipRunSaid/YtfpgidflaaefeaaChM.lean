/- A law about the tone chip: the values that a chip of any state, valid or not, goes on with. -/
import Derived.Test.YtfpgidflaaefeaaChK
namespace Go.Proofs.Ytfpgidflaaefeaa.CH
open Go.RowKit Go.Proofs.YtfpgidflaaefeaaW.PrintLast
set_option linter.unusedVariables false
set_option linter.unusedSimpArgs false
set_option maxHeartbeats 8000000 in
set_option maxRecDepth 100000 in
theorem state_bad (t : T) (ht : ¬ t.Ok) (n : Int) (w : World) (hn : n ≤ 1000) : Calls Try.prog 8 #[.agg t.cs, iv n] w fun e w' => e = .returned (.bool true) ∧ Below w.heap.size w w' := by
  have HA := Lib.hid (heap_alloc_new w (Obj.cells t.cs 35))
  have he := fun W => eqT T.zero W
  have d1 : decide (1000 < n) = false := decide_eq_false (by omega)
  go_enter Try.func8, Try.ntmps8
  go_wp2_with (first
    | (refine wpList_load_row rfl 35 (.tmp 2) rfl (w.heap.size) rfl 35 _ (0, 0) _ HA.out Try.underlying35 rfl (T.i35 _) ?_)
    | (go_at_call 20; (with_reducible refine (run_bad t ht n _).mono ?_); rintro e w5 ⟨rfl, hb5⟩; have A5 := Lib.hid (bkBelow HA.out hb5); have B5 := bdT ((Below.refl _ _).alloc (Nat.le_refl _) _) (by simp) hb5; have Z5 := Lib.hid (heap_alloc_new w5 (Obj.cells #[iv 0, iv 0, iv 0, iv 0, iv 0, iv 0, iv 0, iv 0, iv 0, iv 0, iv 0, iv 0, iv 0, iv 0, iv 0, iv 0, iv 0, iv 0, iv 0, iv 0, iv 0, iv 0, iv 0, iv 0] 35)); clear HA)
    | (refine wpList_store_row rfl 35 (.tmp 6) (.tmp 17) rfl (w5.heap.size) T.zero.cs rfl rfl 35 _ Z5.out (T.i35 _) (T.sz T.zero _) (T.one _) ?_; have A6 := Lib.hid ((setRow_other (w5.alloc (Obj.cells #[iv 0, iv 0, iv 0, iv 0, iv 0, iv 0, iv 0, iv 0, iv 0, iv 0, iv 0, iv 0, iv 0, iv 0, iv 0, iv 0, iv 0, iv 0, iv 0, iv 0, iv 0, iv 0, iv 0, iv 0] 35)) w5.heap.size w.heap.size T.zero.cs (by have := B5.size; have := bkLt A5.out; omega)).trans (bkAlloc A5.out _)); have Z6 := Lib.hid (setRow_heap _ _ _ T.zero.cs _ _ Z5.out); have B6 := below_setRow (B5.alloc B5.size (Obj.cells #[iv 0, iv 0, iv 0, iv 0, iv 0, iv 0, iv 0, iv 0, iv 0, iv 0, iv 0, iv 0, iv 0, iv 0, iv 0, iv 0, iv 0, iv 0, iv 0, iv 0, iv 0, iv 0, iv 0, iv 0] 35)) (g := w5.heap.size) B5.size T.zero.cs; clear Z5 A5)
    | (refine wpList_load_row rfl 35 (.tmp 2) rfl (w.heap.size) rfl 35 _ (0, 0) _ A6.out Try.underlying35 rfl (T.i35 _) ?_)
    | (go_at_call 19; (with_reducible refine (right_no t ht _).mono ?_); rintro e w7 ⟨rfl, hb7⟩; have Z7 := Lib.hid (bkBelow Z6.out hb7); have B7 := bdT B6 B6.size hb7; clear Z6)
    | (refine gdOn (by rfl) ?_; refine wpList_load_row rfl 35 (.tmp 6) rfl (w5.heap.size) rfl 35 _ (0, 0) _ Z7.out Try.underlying35 rfl (T.i35 _) ?_)
    | (refine gdOn (by rfl) ?_; refine wpBuild0 rfl 35 rfl T.zero.cs built35 ?_))
  go_ret
  exact ⟨rfl, B7⟩
set_option maxHeartbeats 8000000 in
set_option maxRecDepth 100000 in
theorem state_neg (t : T) (ht : t.Ok) (n : Int) (h0 : n < 0) (w : World) (hn : n ≤ 1000) : Calls Try.prog 8 #[.agg t.cs, iv n] w fun e w' => e = .returned (.bool true) ∧ Below w.heap.size w w' := by
  have HA := Lib.hid (heap_alloc_new w (Obj.cells t.cs 35))
  have he := fun W => eqT T.zero W
  have d1 : decide (1000 < n) = false := decide_eq_false (by omega)
  go_enter Try.func8, Try.ntmps8
  go_wp2_with (first
    | (refine wpList_load_row rfl 35 (.tmp 2) rfl (w.heap.size) rfl 35 _ (0, 0) _ HA.out Try.underlying35 rfl (T.i35 _) ?_)
    | (go_at_call 20; (with_reducible refine (run_range t ht n (.inl h0) _).mono ?_); rintro e w5 ⟨rfl, hb5⟩; have A5 := Lib.hid (bkBelow HA.out hb5); have B5 := bdT ((Below.refl _ _).alloc (Nat.le_refl _) _) (by simp) hb5; have Z5 := Lib.hid (heap_alloc_new w5 (Obj.cells #[iv 0, iv 0, iv 0, iv 0, iv 0, iv 0, iv 0, iv 0, iv 0, iv 0, iv 0, iv 0, iv 0, iv 0, iv 0, iv 0, iv 0, iv 0, iv 0, iv 0, iv 0, iv 0, iv 0, iv 0] 35)); clear HA)
    | (refine wpList_store_row rfl 35 (.tmp 6) (.tmp 17) rfl (w5.heap.size) T.zero.cs rfl rfl 35 _ Z5.out (T.i35 _) (T.sz T.zero _) (T.one _) ?_; have A6 := Lib.hid ((setRow_other (w5.alloc (Obj.cells #[iv 0, iv 0, iv 0, iv 0, iv 0, iv 0, iv 0, iv 0, iv 0, iv 0, iv 0, iv 0, iv 0, iv 0, iv 0, iv 0, iv 0, iv 0, iv 0, iv 0, iv 0, iv 0, iv 0, iv 0] 35)) w5.heap.size w.heap.size T.zero.cs (by have := B5.size; have := bkLt A5.out; omega)).trans (bkAlloc A5.out _)); have Z6 := Lib.hid (setRow_heap _ _ _ T.zero.cs _ _ Z5.out); have B6 := below_setRow (B5.alloc B5.size (Obj.cells #[iv 0, iv 0, iv 0, iv 0, iv 0, iv 0, iv 0, iv 0, iv 0, iv 0, iv 0, iv 0, iv 0, iv 0, iv 0, iv 0, iv 0, iv 0, iv 0, iv 0, iv 0, iv 0, iv 0, iv 0] 35)) (g := w5.heap.size) B5.size T.zero.cs; clear Z5 A5)
    | (refine wpList_load_row rfl 35 (.tmp 2) rfl (w.heap.size) rfl 35 _ (0, 0) _ A6.out Try.underlying35 rfl (T.i35 _) ?_)
    | (go_at_call 19; (with_reducible refine (right_yes t ht _).mono ?_); rintro e w7 ⟨rfl, hb7⟩; have Z7 := Lib.hid (bkBelow Z6.out hb7); have B7 := bdT B6 B6.size hb7; clear Z6)
    | (refine gdOn (by rfl) ?_; refine wpList_load_row rfl 35 (.tmp 6) rfl (w5.heap.size) rfl 35 _ (0, 0) _ Z7.out Try.underlying35 rfl (T.i35 _) ?_)
    | (refine gdOn (by rfl) ?_; refine wpBuild0 rfl 35 rfl T.zero.cs built35 ?_))
  go_ret
  exact ⟨rfl, B7⟩
set_option maxHeartbeats 8000000 in
set_option maxRecDepth 100000 in
theorem state_fine (t : T) (ht : t.Ok) (n : Nat) (w : World) (hn : n ≤ 1000) : Calls Try.prog 8 #[.agg t.cs, iv n] w fun e w' => e = .returned (.bool true) ∧ Below w.heap.size w w' := by
  have HA := Lib.hid (heap_alloc_new w (Obj.cells t.cs 35))
  have he := fun W => eqT (T.run t n) W
  have d1 : decide (1000 < (n : Int)) = false := decide_eq_false (by omega)
  have d2 : decide ((n : Int) < 0) = false := decide_eq_false (by omega)
  go_enter Try.func8, Try.ntmps8
  go_wp2_with (first
    | (refine wpList_load_row rfl 35 (.tmp 2) rfl (w.heap.size) rfl 35 _ (0, 0) _ HA.out Try.underlying35 rfl (T.i35 _) ?_)
    | (go_at_call 20; (with_reducible refine (run_fine t ht n (by omega) _).mono ?_); rintro e w5 ⟨g, rfl, O5, hb5⟩; have A5 := Lib.hid (bkBelow HA.out hb5); have B5 := bdT ((Below.refl _ _).alloc (Nat.le_refl _) _) (by simp) hb5; have Z5 := Lib.hid (heap_alloc_new w5 (Obj.cells #[iv 0, iv 0, iv 0, iv 0, iv 0, iv 0, iv 0, iv 0, iv 0, iv 0, iv 0, iv 0, iv 0, iv 0, iv 0, iv 0, iv 0, iv 0, iv 0, iv 0, iv 0, iv 0, iv 0, iv 0] 35)); have G5 := Lib.hid (ownFarA O5); clear HA)
    | (refine wpList_store_row rfl 35 (.tmp 6) (.tmp 17) rfl (w5.heap.size) (T.run t n).cs rfl rfl 35 _ Z5.out (T.i35 _) (T.sz T.zero _) (T.one _) ?_; have A6 := Lib.hid ((setRow_other (w5.alloc (Obj.cells #[iv 0, iv 0, iv 0, iv 0, iv 0, iv 0, iv 0, iv 0, iv 0, iv 0, iv 0, iv 0, iv 0, iv 0, iv 0, iv 0, iv 0, iv 0, iv 0, iv 0, iv 0, iv 0, iv 0, iv 0] 35)) w5.heap.size w.heap.size (T.run t n).cs (by have := B5.size; have := bkLt A5.out; omega)).trans (bkAlloc A5.out _)); have Z6 := Lib.hid (setRow_heap _ _ _ (T.run t n).cs _ _ Z5.out); have B6 := below_setRow (B5.alloc B5.size (Obj.cells #[iv 0, iv 0, iv 0, iv 0, iv 0, iv 0, iv 0, iv 0, iv 0, iv 0, iv 0, iv 0, iv 0, iv 0, iv 0, iv 0, iv 0, iv 0, iv 0, iv 0, iv 0, iv 0, iv 0, iv 0] 35)) (g := w5.heap.size) B5.size (T.run t n).cs; have O6 := ownFar (ownBelow O5 ((Below.refl w5.heap.size w5).alloc (Nat.le_refl _) (Obj.cells #[iv 0, iv 0, iv 0, iv 0, iv 0, iv 0, iv 0, iv 0, iv 0, iv 0, iv 0, iv 0, iv 0, iv 0, iv 0, iv 0, iv 0, iv 0, iv 0, iv 0, iv 0, iv 0, iv 0, iv 0] 35))) w5.heap.size (by have := G5.out; omega) (T.run t n).cs; clear Z5 A5 O5)
    | (refine wpList_load_row rfl 35 (.tmp 2) rfl (w.heap.size) rfl 35 _ (0, 0) _ A6.out Try.underlying35 rfl (T.i35 _) ?_)
    | (go_at_call 19; (with_reducible refine (right_yes t ht _).mono ?_); rintro e w7 ⟨rfl, hb7⟩; have A7 := Lib.hid (bkBelow A6.out hb7); have Z7 := Lib.hid (bkBelow Z6.out hb7); have B7 := bdT B6 B6.size hb7; have O7 := ownBelow O6 hb7; clear Z6 A6 O6)
    | (refine wpList_load_row rfl 35 (.tmp 2) rfl (w.heap.size) rfl 35 _ (0, 0) _ A7.out Try.underlying35 rfl (T.i35 _) ?_)
    | (go_at_call 22; (with_reducible refine (ran_any t ht n (by omega) _).mono ?_); rintro e w8 ⟨h, rfl, P8, hb8⟩; have Z8 := Lib.hid (bkBelow Z7.out hb8); have B8 := bdT B7 B7.size hb8; have O8 := ownBelow O7 hb8; have Y8 := Lib.hid (heap_alloc_new w8 (Obj.cells #[iv 0, iv 0, iv 0, iv 0, iv 0, iv 0, iv 0, iv 0, iv 0, iv 0, iv 0, iv 0, iv 0, iv 0, iv 0, iv 0, iv 0, iv 0, iv 0, iv 0, iv 0, iv 0, iv 0, iv 0] 35)); clear Z7 A7 O7)
    | (refine wpList_store_row rfl 35 (.tmp 9) (.tmp 53) rfl (w8.heap.size) (T.run t n).cs rfl rfl 35 _ Y8.out (T.i35 _) (T.sz T.zero _) (T.one _) ?_; have Y9 := Lib.hid (setRow_heap _ _ _ (T.run t n).cs _ _ Y8.out); have Z9 := Lib.hid ((setRow_other (w8.alloc (Obj.cells #[iv 0, iv 0, iv 0, iv 0, iv 0, iv 0, iv 0, iv 0, iv 0, iv 0, iv 0, iv 0, iv 0, iv 0, iv 0, iv 0, iv 0, iv 0, iv 0, iv 0, iv 0, iv 0, iv 0, iv 0] 35)) w8.heap.size w5.heap.size (T.run t n).cs (by have := bkLt Z8.out; omega)).trans (bkAlloc Z8.out _)); have B9 := below_setRow (B8.alloc B8.size (Obj.cells #[iv 0, iv 0, iv 0, iv 0, iv 0, iv 0, iv 0, iv 0, iv 0, iv 0, iv 0, iv 0, iv 0, iv 0, iv 0, iv 0, iv 0, iv 0, iv 0, iv 0, iv 0, iv 0, iv 0, iv 0] 35)) (g := w8.heap.size) B8.size (T.run t n).cs; have O9 := ownFar (ownBelow O8 ((Below.refl w8.heap.size w8).alloc (Nat.le_refl _) (Obj.cells #[iv 0, iv 0, iv 0, iv 0, iv 0, iv 0, iv 0, iv 0, iv 0, iv 0, iv 0, iv 0, iv 0, iv 0, iv 0, iv 0, iv 0, iv 0, iv 0, iv 0, iv 0, iv 0, iv 0, iv 0] 35))) w8.heap.size (by have := ownFarA O8; omega) (T.run t n).cs; have P9 := ownFar (ownBelow P8 ((Below.refl w8.heap.size w8).alloc (Nat.le_refl _) (Obj.cells #[iv 0, iv 0, iv 0, iv 0, iv 0, iv 0, iv 0, iv 0, iv 0, iv 0, iv 0, iv 0, iv 0, iv 0, iv 0, iv 0, iv 0, iv 0, iv 0, iv 0, iv 0, iv 0, iv 0, iv 0] 35))) w8.heap.size (by have := ownFarA P8; omega) (T.run t n).cs; clear Y8 Z8 O8 P8)
    | (go_at_call 14; (with_reducible refine (equal_any g h n n n (t.vals n) (by omega) _ (cellsGet O9) (cellsGet P9)).mono ?_); rintro e w9 ⟨rfl, md, rfl⟩)
    | (refine gdOn (by rfl) ?_; refine wpList_load_row rfl 35 (.tmp 6) rfl (w5.heap.size) rfl 35 _ (0, 0) _ Z9.out Try.underlying35 rfl (T.i35 _) ?_)
    | (refine gdOn (by rfl) ?_; refine wpList_load_row rfl 35 (.tmp 9) rfl (w8.heap.size) rfl 35 _ (0, 0) _ Y9.out Try.underlying35 rfl (T.i35 _) ?_))
  go_ret
  exact ⟨rfl, bdN B9 _⟩
theorem state_any (t : T) (n : Int) (w : World) : Calls Try.prog 8 #[.agg t.cs, iv n] w fun e w' => e = .returned (.bool true) ∧ Below w.heap.size w w' := by
  by_cases h : 1000 < n
  · go_enter Try.func8, Try.ntmps8
    go_wp2
    go_ret
    exact ⟨rfl, ((Below.refl _ _).alloc (Nat.le_refl _) _)⟩
  by_cases ht : t.Ok
  · by_cases h0 : n < 0
    · exact state_neg t ht n h0 w (by omega)
    · obtain ⟨k, rfl⟩ := Int.eq_ofNat_of_zero_le (by omega : 0 ≤ n)
      exact state_fine t ht k w (by omega)
  · exact state_bad t ht n w (by omega)
end Go.Proofs.Ytfpgidflaaefeaa.CH

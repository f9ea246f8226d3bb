/- A law about the tone chip: its values are the same however its steps are divided into two calls. -/
import Derived.Test.YtfpgidflaaefeaaChO
namespace Go.Proofs.Ytfpgidflaaefeaa.CH
open Go.RowKit Go.Proofs.YtfpgidflaaefeaaW.PrintLast
set_option linter.unusedVariables false
set_option linter.unusedSimpArgs false
theorem run_add (t : T) (n : Nat) : ∀ m, t.run (n + m) = (t.run n).run m
  | 0 => rfl
  | m + 1 => by show (t.run (n + m)).step = ((t.run n).run m).step; rw [run_add t n m]
theorem vals_add (t : T) (n m : Nat) : t.vals (n + m) = t.vals n ++ (t.run n).vals m := by
  induction m with
  | zero => simp [T.vals]
  | succ m ih => rw [← Nat.add_assoc, vals_succ, ih, vals_succ, Nat.add_assoc, run_add, List.append_assoc]
theorem nextBlk {w : World} {o : Obj} {g : Nat} (h : w.heap.size = g) : (w.alloc o).heap[g]? = some o := h ▸ heap_alloc_new w o
theorem setF {w : World} {g k : Nat} {o : Obj} {cs : Array Value} (h : w.heap[g]? = some o) (hne : g ≠ k) : (w.setRow k cs).heap[g]? = some o := (setRow_other w k g cs hne).trans h
theorem equal_gen (A C : Option Addr) (n c d : Nat) (xs : List Int) (hn : n ≤ 1000000) (w : World) (h : n = 0 ∨ ∃ g k, A = some ⟨g, 0, none⟩ ∧ C = some ⟨k, 0, none⟩ ∧ (∀ i, i < n → w.cell? ⟨g, i, none⟩ = some (iv (xs.getD i 0))) ∧ (∀ i, i < n → w.cell? ⟨k, i, none⟩ = some (iv (xs.getD i 0)))) :
    Calls Try.prog 14 #[.slice A n c, .slice C n d] w fun e w' => e = .returned (.bool true) ∧ ∃ m, w' = w.drewN m := by
  rcases h with rfl | ⟨g, k, rfl, rfl, ha, hb⟩
  · exact (equal_none A C c d w).mono fun e w' he => ⟨he.1, 0, he.2.symm⟩
  · exact equal_any g k n c d xs hn w ha hb
theorem ownForm {w : World} {B n : Nat} {v : Value} {xs : List Int} (h : w.ownsRow B 3 1 v n (xs.map iv)) : ∃ A c, v = .slice A n c ∧ (n = 0 ∨ ∃ k, A = some ⟨k, 0, none⟩ ∧ ∀ i, i < n → w.cell? ⟨k, i, none⟩ = some (iv (xs.getD i 0))) := by
  rcases h.2 with ⟨rfl, rfl⟩ | ⟨g, cap, cur, rfl, h1⟩
  · exact ⟨none, 0, rfl, .inl rfl⟩
  · exact ⟨_, cap, rfl, .inr ⟨g, rfl, cellsGet h⟩⟩
theorem bothForm {w : World} {B n g c : Nat} {A : Option Addr} {xs : List Int} (h : w.ownsRow B 3 1 (.slice (some ⟨g, 0, none⟩) n c) n (xs.map iv)) (h2 : n = 0 ∨ ∃ k, A = some ⟨k, 0, none⟩ ∧ ∀ i, i < n → w.cell? ⟨k, i, none⟩ = some (iv (xs.getD i 0))) :
    n = 0 ∨ ∃ a b, (some ⟨g, 0, none⟩ : Option Addr) = some ⟨a, 0, none⟩ ∧ A = some ⟨b, 0, none⟩ ∧ (∀ i, i < n → w.cell? ⟨a, i, none⟩ = some (iv (xs.getD i 0))) ∧ (∀ i, i < n → w.cell? ⟨b, i, none⟩ = some (iv (xs.getD i 0))) := by
  rcases h2 with h2 | ⟨k, h3, h4⟩
  · exact .inl h2
  · exact .inr ⟨g, k, rfl, h3, cellsGet h, h4⟩
set_option maxHeartbeats 8000000 in
set_option maxRecDepth 100000 in
theorem divided_fine (t : T) (ht : t.Ok) (n m : Nat) (hn : n ≤ 1000) (hm : m ≤ 1000) (w : World) : Calls Try.prog 13 #[.agg t.cs, iv n, iv m] w fun e w' => e = .returned (.bool true) ∧ Below w.heap.size w w' := by
  have HA := Lib.hid (heap_alloc_new w (Obj.cells t.cs 35))
  have he := fun W => eqT ((t.run n).run m) W
  have d0 : decide ((n : Int) < 0) = false := decide_eq_false (by omega)
  have d1 : decide ((m : Int) < 0) = false := decide_eq_false (by omega)
  have d2 : decide (1000 < (n : Int)) = false := decide_eq_false (by omega)
  have d3 : decide (1000 < (m : Int)) = false := decide_eq_false (by omega)
  have R0 : ∀ W : World, Calls Try.prog 20 #[.agg t.cs, iv ((n : Int) + m)] W fun e w' => ∃ g, e = .returned (.tuple #[.slice (some ⟨g, 0, none⟩) (n + m) (n + m), .agg ((t.run n).run m).cs, iv 0]) ∧ w'.ownsRow W.heap.size 3 1 (.slice (some ⟨g, 0, none⟩) (n + m) (n + m)) (n + m) ((t.vals n ++ (t.run n).vals m).map iv) ∧ Below W.heap.size W w' := fun W => by
    have := run_fine t ht (n + m) (by omega) W
    rw [run_add, vals_add] at this
    exact this
  have R0H := Lib.hid R0
  have e1 : (((n + m : Nat) : Int) == (n : Int) + m) = true := by simp
  have e2 : (((n : Int) + m) == (n : Int) + m) = true := by simp
  clear R0
  go_enter Try.func13, Try.ntmps13
  go_wp2_with (first
    | (refine gdOn (by rfl) ?_; refine wpList_load_row rfl 35 (.tmp 3) rfl (w.heap.size) rfl 35 _ (0, 0) _ HA.out Try.underlying35 rfl (T.i35 _) ?_)
    | (go_at_call 19; (with_reducible refine (right_yes t ht _).mono ?_); rintro e w1 ⟨rfl, hb1⟩; have A1 := Lib.hid (bkBelow HA.out hb1); have B1 := bdT ((Below.refl _ _).alloc (Nat.le_refl _) _) (by simp) hb1; clear HA)
    | (refine wpList_load_row rfl 35 (.tmp 3) rfl (w.heap.size) rfl 35 _ (0, 0) _ A1.out Try.underlying35 rfl (T.i35 _) ?_)
    | (go_at_call 20; (with_reducible refine (R0H.out _).mono ?_); rintro e w2 ⟨g, rfl, O2, hb2⟩; have A2 := Lib.hid (bkBelow A1.out hb2); have B2 := bdT B1 B1.size hb2; have Z2 := Lib.hid (heap_alloc_new w2 (Obj.cells #[iv 0, iv 0, iv 0, iv 0, iv 0, iv 0, iv 0, iv 0, iv 0, iv 0, iv 0, iv 0, iv 0, iv 0, iv 0, iv 0, iv 0, iv 0, iv 0, iv 0, iv 0, iv 0, iv 0, iv 0] 35)); clear A1)
    | (refine wpList_store_row rfl 35 (.tmp 8) (.tmp 42) rfl (w2.heap.size) ((t.run n).run m).cs rfl rfl 35 _ Z2.out (T.i35 _) (T.sz T.zero _) (T.one _) ?_; have A3 := Lib.hid (setF (cs := ((t.run n).run m).cs) (bkAlloc A2.out (Obj.cells #[iv 0, iv 0, iv 0, iv 0, iv 0, iv 0, iv 0, iv 0, iv 0, iv 0, iv 0, iv 0, iv 0, iv 0, iv 0, iv 0, iv 0, iv 0, iv 0, iv 0, iv 0, iv 0, iv 0, iv 0] 35)) (by have := bkLt A2.out; omega : w.heap.size ≠ w2.heap.size)); have P3 := Lib.hid (setRow_heap _ _ _ ((t.run n).run m).cs _ _ Z2.out); have B3 := below_setRow (B2.alloc B2.size (Obj.cells #[iv 0, iv 0, iv 0, iv 0, iv 0, iv 0, iv 0, iv 0, iv 0, iv 0, iv 0, iv 0, iv 0, iv 0, iv 0, iv 0, iv 0, iv 0, iv 0, iv 0, iv 0, iv 0, iv 0, iv 0] 35)) (g := w2.heap.size) B2.size ((t.run n).run m).cs; have O3 := ownFar (ownBelow O2 ((Below.refl w2.heap.size w2).alloc (Nat.le_refl _) (Obj.cells #[iv 0, iv 0, iv 0, iv 0, iv 0, iv 0, iv 0, iv 0, iv 0, iv 0, iv 0, iv 0, iv 0, iv 0, iv 0, iv 0, iv 0, iv 0, iv 0, iv 0, iv 0, iv 0, iv 0, iv 0] 35))) w2.heap.size (by have := ownFarA O2; omega) ((t.run n).run m).cs; have G3 := Lib.hid (ownFarA O2); clear Z2 A2 O2)
    | (refine wpList_load_row rfl 35 (.tmp 3) rfl (w.heap.size) rfl 35 _ (0, 0) _ A3.out Try.underlying35 rfl (T.i35 _) ?_)
    | (go_at_call 20; (with_reducible refine (run_fine t ht n (by omega) _).mono ?_); rintro e w4 ⟨h, rfl, Q4, hb4⟩; have P4 := Lib.hid (bkBelow P3.out hb4); have B4 := bdT B3 B3.size hb4; have O4 := ownBelow O3 hb4; have Z4 := Lib.hid (heap_alloc_new w4 (Obj.cells #[iv 0, iv 0, iv 0, iv 0, iv 0, iv 0, iv 0, iv 0, iv 0, iv 0, iv 0, iv 0, iv 0, iv 0, iv 0, iv 0, iv 0, iv 0, iv 0, iv 0, iv 0, iv 0, iv 0, iv 0] 35)); clear A3 P3 O3)
    | (refine wpList_store_row rfl 35 (.tmp 11) (.tmp 49) rfl (w4.heap.size) (t.run n).cs rfl rfl 35 _ Z4.out (T.i35 _) (T.sz T.zero _) (T.one _) ?_; have P5 := Lib.hid (setF (cs := (t.run n).cs) (bkAlloc P4.out (Obj.cells #[iv 0, iv 0, iv 0, iv 0, iv 0, iv 0, iv 0, iv 0, iv 0, iv 0, iv 0, iv 0, iv 0, iv 0, iv 0, iv 0, iv 0, iv 0, iv 0, iv 0, iv 0, iv 0, iv 0, iv 0] 35)) (by have := bkLt P4.out; omega : w2.heap.size ≠ w4.heap.size)); have S5 := Lib.hid (setRow_heap _ _ _ (t.run n).cs _ _ Z4.out); have B5 := below_setRow (B4.alloc B4.size (Obj.cells #[iv 0, iv 0, iv 0, iv 0, iv 0, iv 0, iv 0, iv 0, iv 0, iv 0, iv 0, iv 0, iv 0, iv 0, iv 0, iv 0, iv 0, iv 0, iv 0, iv 0, iv 0, iv 0, iv 0, iv 0] 35)) (g := w4.heap.size) B4.size (t.run n).cs; have O5 := ownFar (ownBelow O4 ((Below.refl w4.heap.size w4).alloc (Nat.le_refl _) (Obj.cells #[iv 0, iv 0, iv 0, iv 0, iv 0, iv 0, iv 0, iv 0, iv 0, iv 0, iv 0, iv 0, iv 0, iv 0, iv 0, iv 0, iv 0, iv 0, iv 0, iv 0, iv 0, iv 0, iv 0, iv 0] 35))) w4.heap.size (by have := ownFarA O4; omega) (t.run n).cs; have Q5 := ownFar (ownBelow Q4 ((Below.refl w4.heap.size w4).alloc (Nat.le_refl _) (Obj.cells #[iv 0, iv 0, iv 0, iv 0, iv 0, iv 0, iv 0, iv 0, iv 0, iv 0, iv 0, iv 0, iv 0, iv 0, iv 0, iv 0, iv 0, iv 0, iv 0, iv 0, iv 0, iv 0, iv 0, iv 0] 35))) w4.heap.size (by have := ownFarA Q4; omega) (t.run n).cs; clear Z4 P4 O4 Q4)
    | (refine wpList_load_row rfl 35 (.tmp 11) rfl (w4.heap.size) rfl 35 _ (0, 0) _ S5.out Try.underlying35 rfl (T.i35 _) ?_)
    | (go_at_call 20; (with_reducible refine (run_fine (t.run n) (run_ok ht n) m (by omega) _).mono ?_); rintro e w6 ⟨k, rfl, U6, hb6⟩; have P6 := Lib.hid (bkBelow P5.out hb6); have B6 := bdT B5 B5.size hb6; have O6 := ownBelow O5 hb6; have Q6 := ownBelow Q5 hb6; have Z6 := Lib.hid (heap_alloc_new w6 (Obj.cells #[iv 0, iv 0, iv 0, iv 0, iv 0, iv 0, iv 0, iv 0, iv 0, iv 0, iv 0, iv 0, iv 0, iv 0, iv 0, iv 0, iv 0, iv 0, iv 0, iv 0, iv 0, iv 0, iv 0, iv 0] 35)); clear S5 P5 O5 Q5)
    | (refine wpList_store_row rfl 35 (.tmp 14) (.tmp 56) rfl (w6.heap.size) ((t.run n).run m).cs rfl rfl 35 _ Z6.out (T.i35 _) (T.sz T.zero _) (T.one _) ?_; have P7 := Lib.hid (setF (cs := ((t.run n).run m).cs) (bkAlloc P6.out (Obj.cells #[iv 0, iv 0, iv 0, iv 0, iv 0, iv 0, iv 0, iv 0, iv 0, iv 0, iv 0, iv 0, iv 0, iv 0, iv 0, iv 0, iv 0, iv 0, iv 0, iv 0, iv 0, iv 0, iv 0, iv 0] 35)) (by have := bkLt P6.out; omega : w2.heap.size ≠ w6.heap.size)); have S7 := Lib.hid (setRow_heap _ _ _ ((t.run n).run m).cs _ _ Z6.out); have B7 := below_setRow (B6.alloc B6.size (Obj.cells #[iv 0, iv 0, iv 0, iv 0, iv 0, iv 0, iv 0, iv 0, iv 0, iv 0, iv 0, iv 0, iv 0, iv 0, iv 0, iv 0, iv 0, iv 0, iv 0, iv 0, iv 0, iv 0, iv 0, iv 0] 35)) (g := w6.heap.size) B6.size ((t.run n).run m).cs; have O7 := ownFar (ownBelow O6 ((Below.refl w6.heap.size w6).alloc (Nat.le_refl _) (Obj.cells #[iv 0, iv 0, iv 0, iv 0, iv 0, iv 0, iv 0, iv 0, iv 0, iv 0, iv 0, iv 0, iv 0, iv 0, iv 0, iv 0, iv 0, iv 0, iv 0, iv 0, iv 0, iv 0, iv 0, iv 0] 35))) w6.heap.size (by have := ownFarA O6; omega) ((t.run n).run m).cs; have Q7 := ownFar (ownBelow Q6 ((Below.refl w6.heap.size w6).alloc (Nat.le_refl _) (Obj.cells #[iv 0, iv 0, iv 0, iv 0, iv 0, iv 0, iv 0, iv 0, iv 0, iv 0, iv 0, iv 0, iv 0, iv 0, iv 0, iv 0, iv 0, iv 0, iv 0, iv 0, iv 0, iv 0, iv 0, iv 0] 35))) w6.heap.size (by have := ownFarA Q6; omega) ((t.run n).run m).cs; have U7 := ownFar (ownBelow U6 ((Below.refl w6.heap.size w6).alloc (Nat.le_refl _) (Obj.cells #[iv 0, iv 0, iv 0, iv 0, iv 0, iv 0, iv 0, iv 0, iv 0, iv 0, iv 0, iv 0, iv 0, iv 0, iv 0, iv 0, iv 0, iv 0, iv 0, iv 0, iv 0, iv 0, iv 0, iv 0] 35))) w6.heap.size (by have := ownFarA U6; omega) ((t.run n).run m).cs; clear Z6 P6 O6 Q6 U6)
    | (go_at_call 32; refine (concat_any (w6.heap.size + 1) h k n m n m (t.vals n) ((t.run n).vals m) (by omega) (by omega) (vals_len _ _) (vals_len _ _) _ (nextBlk (by simp)) (ownFarA (ownBelow Q7 ((Below.refl _ _).alloc (Nat.le_refl _) _))) (ownFarA (ownBelow U7 ((Below.refl _ _).alloc (Nat.le_refl _) _))) (cellsGet (ownBelow Q7 ((Below.refl _ _).alloc (Nat.le_refl _) _))) (cellsGet (ownBelow U7 ((Below.refl _ _).alloc (Nat.le_refl _) _)))).mono ?_; rintro e w8 ⟨v, rfl, V8, hb8⟩; have P8 := Lib.hid (bkBelow (bkAlloc P7.out _) hb8); have S8 := Lib.hid (bkBelow (bkAlloc S7.out _) hb8); have B8 := bdT (B7.alloc B7.size _) (B7.alloc B7.size _).size hb8; have O8 := ownBelow (ownBelow O7 ((Below.refl _ _).alloc (Nat.le_refl _) _)) hb8; obtain ⟨A8, c8, rfl, F8⟩ := ownForm V8; have E8 := Lib.hid (bothForm O8 F8); clear P7 S7 O7 Q7 U7 O8 F8 V8)
    | (go_at_call 14; (with_reducible refine (equal_gen _ _ (n + m) _ _ _ (by omega) _ E8.out).mono ?_); rintro e w9 ⟨rfl, md, rfl⟩)
    | (refine gdOn (by rfl) ?_; refine wpList_load_row rfl 35 (.tmp 8) rfl (w2.heap.size) rfl 35 _ (0, 0) _ P8.out Try.underlying35 rfl (T.i35 _) ?_)
    | (refine gdOn (by rfl) ?_; refine wpList_load_row rfl 35 (.tmp 14) rfl (w6.heap.size) rfl 35 _ (0, 0) _ S8.out Try.underlying35 rfl (T.i35 _) ?_))
  go_ret
  exact ⟨rfl, bdN B8 _⟩
set_option maxHeartbeats 4000000 in
set_option maxRecDepth 100000 in
theorem divided_any (t : T) (n m : Int) (w : World) : Calls Try.prog 13 #[.agg t.cs, iv n, iv m] w fun e w' => e = .returned (.bool true) ∧ Below w.heap.size w w' := by
  by_cases h0 : n < 0
  · go_enter Try.func13, Try.ntmps13
    go_wp2
    go_ret
    exact ⟨rfl, ((Below.refl _ _).alloc (Nat.le_refl _) _)⟩
  have d0 : decide (n < 0) = false := decide_eq_false h0
  by_cases h1 : m < 0
  · go_enter Try.func13, Try.ntmps13
    go_wp2
    go_ret
    exact ⟨rfl, ((Below.refl _ _).alloc (Nat.le_refl _) _)⟩
  have d1 : decide (m < 0) = false := decide_eq_false h1
  by_cases h2 : 1000 < n
  · go_enter Try.func13, Try.ntmps13
    go_wp2
    go_ret
    exact ⟨rfl, ((Below.refl _ _).alloc (Nat.le_refl _) _)⟩
  have d2 : decide (1000 < n) = false := decide_eq_false h2
  by_cases h3 : 1000 < m
  · go_enter Try.func13, Try.ntmps13
    go_wp2
    go_ret
    exact ⟨rfl, ((Below.refl _ _).alloc (Nat.le_refl _) _)⟩
  have d3 : decide (1000 < m) = false := decide_eq_false h3
  by_cases ht : t.Ok
  · obtain ⟨a, rfl⟩ := Int.eq_ofNat_of_zero_le (by omega : 0 ≤ n)
    obtain ⟨b, rfl⟩ := Int.eq_ofNat_of_zero_le (by omega : 0 ≤ m)
    exact divided_fine t ht a b (by omega) (by omega) w
  · have HA := Lib.hid (heap_alloc_new w (Obj.cells t.cs 35))
    go_enter Try.func13, Try.ntmps13
    go_wp2_with (first
      | (refine gdOn (by rfl) ?_; refine wpList_load_row rfl 35 (.tmp 3) rfl (w.heap.size) rfl 35 _ (0, 0) _ HA.out Try.underlying35 rfl (T.i35 _) ?_)
      | (go_at_call 19; (with_reducible refine (right_no t ht _).mono ?_); rintro e w5 ⟨rfl, hb5⟩))
    go_ret
    exact ⟨rfl, bdT ((Below.refl _ _).alloc (Nat.le_refl _) _) (by simp) hb5⟩
end Go.Proofs.Ytfpgidflaaefeaa.CH

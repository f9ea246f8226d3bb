/- Two steps of a cursor are one. -/
import Derived.Test.YtnmoiolddfboiaaSxI
namespace Go.Proofs.Ytnmoiolddfboiaa.SX
open Go.RowKit Go.Proofs.YtnmoiolddfboiaaW.PrintLast Go.Proofs.Ytnmoiolddfboiaa.TX Go.Proofs.Ytnmoiolddfboiaa.Cu
set_option linter.unusedVariables false
set_option linter.unusedSimpArgs false
set_option maxHeartbeats 8000000 in
set_option maxRecDepth 100000 in
theorem splits_g1 (q : Q) (s : S) (A : Option Addr) (n c0 b o : Nat) (xs : Nat → Int) (p r : Int) (h1 : p < 0) (hn : n ≤ 9223372036854775807) (hc0 : n ≤ c0) (w : World) (hA : DataAt w A n b o xs) : Calls Try.prog 4 #[.agg (q.cs s A n c0), iv p, iv r] w fun e w' => e = .returned (.bool true) ∧ Below w.heap.size w w' := by
  have B0 : Below w.heap.size w (w.alloc (Obj.cells (q.cs s A n c0) 28)) := (Below.refl _ _).alloc (Nat.le_refl _) _
  have P0 := Lib.hid (show (w.alloc (Obj.cells (q.cs s A n c0) 28)).heap[w.heap.size]? = some (.cells (q.cs s A n c0) 28 (0, 0)) from heap_alloc_new w _)
  have D0 := Lib.hid (hA.later B0)
  have d1 : decide (p < 0) = true := decide_eq_true (by omega)
  go_enter Try.func4, Try.ntmps4
  go_wp2_with (go_at_call 16; (with_reducible refine (awake_any _).mono ?_); rintro e wz ⟨rfl, hbz⟩)
  go_ret
  exact ⟨rfl, bdT B0 B0.size hbz⟩
set_option maxHeartbeats 8000000 in
set_option maxRecDepth 100000 in
theorem splits_g2 (q : Q) (s : S) (A : Option Addr) (n c0 b o : Nat) (xs : Nat → Int) (p r : Int) (h1 : 0 ≤ p) (h2 : r < 0) (hn : n ≤ 9223372036854775807) (hc0 : n ≤ c0) (w : World) (hA : DataAt w A n b o xs) : Calls Try.prog 4 #[.agg (q.cs s A n c0), iv p, iv r] w fun e w' => e = .returned (.bool true) ∧ Below w.heap.size w w' := by
  have B0 : Below w.heap.size w (w.alloc (Obj.cells (q.cs s A n c0) 28)) := (Below.refl _ _).alloc (Nat.le_refl _) _
  have P0 := Lib.hid (show (w.alloc (Obj.cells (q.cs s A n c0) 28)).heap[w.heap.size]? = some (.cells (q.cs s A n c0) 28 (0, 0)) from heap_alloc_new w _)
  have D0 := Lib.hid (hA.later B0)
  have d1 : decide (p < 0) = false := decide_eq_false (by omega)
  have d2 : decide (r < 0) = true := decide_eq_true (by omega)
  go_enter Try.func4, Try.ntmps4
  go_wp2_with (go_at_call 16; (with_reducible refine (awake_any _).mono ?_); rintro e wz ⟨rfl, hbz⟩)
  go_ret
  exact ⟨rfl, bdT B0 B0.size hbz⟩
set_option maxHeartbeats 8000000 in
set_option maxRecDepth 100000 in
theorem splits_g3 (q : Q) (s : S) (A : Option Addr) (n c0 b o : Nat) (xs : Nat → Int) (p r : Int) (h1 : 0 ≤ p) (h2 : 0 ≤ r) (h3 : 268435456 < p) (hn : n ≤ 9223372036854775807) (hc0 : n ≤ c0) (w : World) (hA : DataAt w A n b o xs) : Calls Try.prog 4 #[.agg (q.cs s A n c0), iv p, iv r] w fun e w' => e = .returned (.bool true) ∧ Below w.heap.size w w' := by
  have B0 : Below w.heap.size w (w.alloc (Obj.cells (q.cs s A n c0) 28)) := (Below.refl _ _).alloc (Nat.le_refl _) _
  have P0 := Lib.hid (show (w.alloc (Obj.cells (q.cs s A n c0) 28)).heap[w.heap.size]? = some (.cells (q.cs s A n c0) 28 (0, 0)) from heap_alloc_new w _)
  have D0 := Lib.hid (hA.later B0)
  have d1 : decide (p < 0) = false := decide_eq_false (by omega)
  have d2 : decide (r < 0) = false := decide_eq_false (by omega)
  have d3 : decide (268435456 < p) = true := decide_eq_true (by omega)
  go_enter Try.func4, Try.ntmps4
  go_wp2_with (go_at_call 16; (with_reducible refine (awake_any _).mono ?_); rintro e wz ⟨rfl, hbz⟩)
  go_ret
  exact ⟨rfl, bdT B0 B0.size hbz⟩
set_option maxHeartbeats 8000000 in
set_option maxRecDepth 100000 in
theorem splits_g4 (q : Q) (s : S) (A : Option Addr) (n c0 b o : Nat) (xs : Nat → Int) (p r : Int) (h1 : 0 ≤ p) (h2 : 0 ≤ r) (h3 : p ≤ 268435456) (h4 : 268435456 - p < r) (hn : n ≤ 9223372036854775807) (hc0 : n ≤ c0) (w : World) (hA : DataAt w A n b o xs) : Calls Try.prog 4 #[.agg (q.cs s A n c0), iv p, iv r] w fun e w' => e = .returned (.bool true) ∧ Below w.heap.size w w' := by
  have B0 : Below w.heap.size w (w.alloc (Obj.cells (q.cs s A n c0) 28)) := (Below.refl _ _).alloc (Nat.le_refl _) _
  have P0 := Lib.hid (show (w.alloc (Obj.cells (q.cs s A n c0) 28)).heap[w.heap.size]? = some (.cells (q.cs s A n c0) 28 (0, 0)) from heap_alloc_new w _)
  have D0 := Lib.hid (hA.later B0)
  have d1 : decide (p < 0) = false := decide_eq_false (by omega)
  have d2 : decide (r < 0) = false := decide_eq_false (by omega)
  have d3 : decide (268435456 < p) = false := decide_eq_false (by omega)
  have d4 : decide (268435456 - p < r) = true := decide_eq_true (by omega)
  go_enter Try.func4, Try.ntmps4
  go_wp2_with (go_at_call 16; (with_reducible refine (awake_any _).mono ?_); rintro e wz ⟨rfl, hbz⟩)
  go_ret
  exact ⟨rfl, bdT B0 B0.size hbz⟩
set_option maxHeartbeats 8000000 in
set_option maxRecDepth 100000 in
theorem splits_bad (q : Q) (s : S) (A : Option Addr) (n c0 b o : Nat) (xs : Nat → Int) (p r : Int) (ho : -9223372036854775808 ≤ q.off ∧ q.off ≤ 9223372036854775807) (h1 : 0 ≤ p) (h2 : 0 ≤ r) (h3 : p ≤ 268435456) (h4 : r ≤ 268435456 - p) (hv : vS s n xs = false) (hn : n ≤ 9223372036854775807) (hc0 : n ≤ c0) (w : World) (hA : DataAt w A n b o xs) : Calls Try.prog 4 #[.agg (q.cs s A n c0), iv p, iv r] w fun e w' => e = .returned (.bool true) ∧ Below w.heap.size w w' := by
  have B0 : Below w.heap.size w (w.alloc (Obj.cells (q.cs s A n c0) 28)) := (Below.refl _ _).alloc (Nat.le_refl _) _
  have P0 := Lib.hid (show (w.alloc (Obj.cells (q.cs s A n c0) 28)).heap[w.heap.size]? = some (.cells (q.cs s A n c0) 28 (0, 0)) from heap_alloc_new w _)
  have D0 := Lib.hid (hA.later B0)
  have d1 : decide (p < 0) = false := decide_eq_false (by omega)
  have d2 : decide (r < 0) = false := decide_eq_false (by omega)
  have d3 : decide (268435456 < p) = false := decide_eq_false (by omega)
  have d4 : decide (268435456 - p < r) = false := decide_eq_false (by omega)
  have KB := Lib.hid fun (W : World) (h : DataAt W A n b o xs) => sbegin_any s A n c0 b o xs q.off false ho hn hc0 W h
  obtain ⟨C, hC⟩ : ∃ C, beginA s n xs q.off false = C := ⟨_, rfl⟩
  rw [hC] at KB
  obtain ⟨M, hM⟩ : ∃ M, M = Cur.zero := ⟨_, rfl⟩
  have KM := Lib.hid (show ∀ W : World, DataAt W A n b o xs → Calls Try.prog 18 #[.agg (s.cs A n c0), .agg (Cur.cs C), iv p, .bool q.he] W fun e w' => e = .returned (.tuple #[.agg (Cur.cs M), iv 1]) ∧ Below W.heap.size W w' from fun W h => by
    have := smove_any s A n c0 b o xs C p q.he hn hc0 W h
    rwa [show moveA s n xs C p q.he = (Cur.zero, 1) from if_neg (by rw [hv]; simp), ← hM] at this)
  have VC := Lib.hid (show ∀ (W : World), DataAt W A n b o xs → Calls Try.prog 15 #[.agg (s.cs A n c0)] W fun e w' => e = .returned (.bool false) ∧ Below W.heap.size W w' from fun W h => by have := valid_any s A n c0 b o xs hn hc0 W h; rwa [hv] at this)
  clear hA hv hC hM h2 h4
  go_enter Try.func4, Try.ntmps4
  go_upto_region 3 with (fail)
  have y20 : (q.cs s A n c0)[20]? = some (iv q.off) := rfl
  clear h1 h3
  go_upto_region 4 with (first
    | (refine wpLoadAsk rfl _ rfl (w.heap.size) rfl q s A n c0 P0.out ?_)
    | (go_at_call 17; (with_reducible refine (KB.out _ D0.out).mono ?_); rintro e w1 ⟨rfl, hb1⟩; have P1 := Lib.hid (bkBelow P0.out hb1); have D1 := Lib.hid (D0.out.later hb1); have B1 := bdT B0 B0.size hb1; clear P0 D0)
    | (refine wpList_store_row rfl 26 (.tmp 7) (.tmp 35) rfl (w1.heap.size) (Cur.cs C) rfl rfl 26 _ (heap_alloc_new w1 (Obj.cells #[iv 0, iv 0, .bool false, .bool false] 26)) (Cur.i26 _) (Cur.sz Cur.zero _) (Cur.one _) ?_; have K2 := below_setRow ((Below.refl w1.heap.size w1).alloc (Nat.le_refl _) (Obj.cells #[iv 0, iv 0, .bool false, .bool false] 26)) (g := w1.heap.size) (Nat.le_refl _) (Cur.cs C); have P2 := Lib.hid (bkBelow P1.out K2); have D2 := Lib.hid (D1.out.later K2); have B2 := bdT B1 B1.size K2; have C2 := Lib.hid (setRow_heap _ _ _ (Cur.cs C) _ _ (heap_alloc_new w1 (Obj.cells #[iv 0, iv 0, .bool false, .bool false] 26))); clear P1 D1))
  have z26 := (bkCell P2.out 26).trans (show _ = some (.bool q.he) from rfl)
  go_upto_region 5 with (first
    | (refine wpLoadAsk rfl _ rfl (w.heap.size) rfl q s A n c0 P2.out ?_)
    | (refine wpList_load_row rfl 26 (.tmp 7) rfl (w1.heap.size) rfl 26 _ (0, 0) _ C2.out Try.underlying26 rfl (Cur.i26 _) ?_)
    | (go_at_call 18; (with_reducible refine (KM.out _ D2.out).mono ?_); rintro e w3 ⟨rfl, hb3⟩; have P3 := Lib.hid (bkBelow P2.out hb3); have D3 := Lib.hid (D2.out.later hb3); have C3 := Lib.hid (bkBelow C2.out hb3); have B3 := bdT B2 B2.size hb3; clear P2 D2 C2)
    | (refine wpList_store_row rfl 26 (.tmp 8) (.tmp 44) rfl (w3.heap.size) (Cur.cs M) rfl rfl 26 _ (heap_alloc_new w3 (Obj.cells #[iv 0, iv 0, .bool false, .bool false] 26)) (Cur.i26 _) (Cur.sz Cur.zero _) (Cur.one _) ?_; have K4 := below_setRow ((Below.refl w3.heap.size w3).alloc (Nat.le_refl _) (Obj.cells #[iv 0, iv 0, .bool false, .bool false] 26)) (g := w3.heap.size) (Nat.le_refl _) (Cur.cs M); have P4 := Lib.hid (bkBelow P3.out K4); have D4 := Lib.hid (D3.out.later K4); have C4 := Lib.hid (bkBelow C3.out K4); have B4 := bdT B3 B3.size K4; have M4 := Lib.hid (setRow_heap _ _ _ (Cur.cs M) _ _ (heap_alloc_new w3 (Obj.cells #[iv 0, iv 0, .bool false, .bool false] 26))); clear P3 D3 C3))
  go_wp2_with (first
    | (refine gdOn (by rfl) ?_; refine wpLoadAsk rfl _ rfl (w.heap.size) rfl q s A n c0 P4.out ?_)
    | (go_at_call 15; (with_reducible refine (VC.out _ D4.out).mono ?_); rintro e w5 ⟨rfl, hb5⟩; have P5 := Lib.hid (bkBelow P4.out hb5); have D5 := Lib.hid (D4.out.later hb5); have C5 := Lib.hid (bkBelow C4.out hb5); have M5 := Lib.hid (bkBelow M4.out hb5); have B5 := bdT B4 B4.size hb5; clear P4 D4 C4 M4)
    | (go_at_call 16; (with_reducible refine (awake_any _).mono ?_); rintro e wz ⟨rfl, hbz⟩))
  go_ret
  exact ⟨rfl, bdT B5 B5.size hbz⟩
set_option maxHeartbeats 8000000 in
set_option maxRecDepth 100000 in
theorem splits_ok (q : Q) (s : S) (A : Option Addr) (n c0 b o : Nat) (xs : Nat → Int) (p r : Int) (ho : -9223372036854775808 ≤ q.off ∧ q.off ≤ 9223372036854775807) (h1 : 0 ≤ p) (h2 : 0 ≤ r) (h3 : p ≤ 268435456) (h4 : r ≤ 268435456 - p) (hv : vS s n xs = true) (hn : n ≤ 9223372036854775807) (hc0 : n ≤ c0) (w : World) (hA : DataAt w A n b o xs) : Calls Try.prog 4 #[.agg (q.cs s A n c0), iv p, iv r] w fun e w' => e = .returned (.bool true) ∧ Below w.heap.size w w' := by
  have B0 : Below w.heap.size w (w.alloc (Obj.cells (q.cs s A n c0) 28)) := (Below.refl _ _).alloc (Nat.le_refl _) _
  have P0 := Lib.hid (show (w.alloc (Obj.cells (q.cs s A n c0) 28)).heap[w.heap.size]? = some (.cells (q.cs s A n c0) 28 (0, 0)) from heap_alloc_new w _)
  have D0 := Lib.hid (hA.later B0)
  have d1 : decide (p < 0) = false := decide_eq_false (by omega)
  have d2 : decide (r < 0) = false := decide_eq_false (by omega)
  have d3 : decide (268435456 < p) = false := decide_eq_false (by omega)
  have d4 : decide (268435456 - p < r) = false := decide_eq_false (by omega)
  have hb : CurOk n (begM n q.off false) := beg_ok n q.off false
  have hL := vS_loops hv
  have KB := Lib.hid fun (W : World) (h : DataAt W A n b o xs) => sbegin_any s A n c0 b o xs q.off false ho hn hc0 W h
  rw [show beginA s n xs q.off false = begM n q.off false from if_pos hv] at KB
  have hbk : (begM n q.off false).back = false := by
    unfold begM
    split
    · rfl
    · rfl
  obtain ⟨C, hC⟩ : ∃ C, begM n q.off false = C := ⟨_, rfl⟩
  rw [hC] at KB hb hbk
  have hm := moveM_ok (held := q.he) hL hb h1
  have hs : moveM s n (moveM s n C p q.he) r q.he = moveM s n C (p + r) q.he := move_split (loops_rg hL q.he).1 hb hbk h1 h2
  obtain ⟨M, hM⟩ : ∃ M, moveM s n C p q.he = M := ⟨_, rfl⟩
  obtain ⟨X, hX⟩ : ∃ X, moveM s n C (p + r) q.he = X := ⟨_, rfl⟩
  have mk : ∀ (c d : Cur) (t : Int), CurOk n c → 0 ≤ t → t ≤ 268435456 → moveM s n c t q.he = d → ∀ W : World, DataAt W A n b o xs → Calls Try.prog 18 #[.agg (s.cs A n c0), .agg (Cur.cs c), iv t, .bool q.he] W fun e w' => e = .returned (.tuple #[.agg (Cur.cs d), iv 0]) ∧ Below W.heap.size W w' := fun c d t k1 k2 k3 k4 W h => by
    have := smove_any s A n c0 b o xs c t q.he hn hc0 W h
    rwa [show moveA s n xs c t q.he = (d, 0) from by unfold moveA; rw [if_pos ⟨hv, okB_iff.2 k1⟩, if_neg (by omega), k4]] at this
  rw [hM] at hm hs
  rw [hX] at hs
  have KM := Lib.hid (mk C M p hb h1 h3 hM)
  have KN := Lib.hid (mk M X r hm h2 (by omega) hs)
  have KO := Lib.hid (mk C X (p + r) hb (by omega) (by omega) hX)
  have wp : wrap64 (p + r) = p + r := wrap_in (by omega) (by omega)
  have Wp := Lib.hid wp
  have EQ := Lib.hid (eqCur X)
  clear hA hv hC hM hX hs hm hb hbk mk h2 h4 wp hL
  go_enter Try.func4, Try.ntmps4
  go_upto_region 3 with (fail)
  have y20 : (q.cs s A n c0)[20]? = some (iv q.off) := rfl
  clear h1 h3
  go_upto_region 4 with (first
    | (refine wpLoadAsk rfl _ rfl (w.heap.size) rfl q s A n c0 P0.out ?_)
    | (go_at_call 17; (with_reducible refine (KB.out _ D0.out).mono ?_); rintro e w1 ⟨rfl, hb1⟩; have P1 := Lib.hid (bkBelow P0.out hb1); have D1 := Lib.hid (D0.out.later hb1); have B1 := bdT B0 B0.size hb1; clear P0 D0)
    | (refine wpList_store_row rfl 26 (.tmp 7) (.tmp 35) rfl (w1.heap.size) (Cur.cs C) rfl rfl 26 _ (heap_alloc_new w1 (Obj.cells #[iv 0, iv 0, .bool false, .bool false] 26)) (Cur.i26 _) (Cur.sz Cur.zero _) (Cur.one _) ?_; have K2 := below_setRow ((Below.refl w1.heap.size w1).alloc (Nat.le_refl _) (Obj.cells #[iv 0, iv 0, .bool false, .bool false] 26)) (g := w1.heap.size) (Nat.le_refl _) (Cur.cs C); have P2 := Lib.hid (bkBelow P1.out K2); have D2 := Lib.hid (D1.out.later K2); have B2 := bdT B1 B1.size K2; have C2 := Lib.hid (setRow_heap _ _ _ (Cur.cs C) _ _ (heap_alloc_new w1 (Obj.cells #[iv 0, iv 0, .bool false, .bool false] 26))); clear P1 D1))
  have z26 := (bkCell P2.out 26).trans (show _ = some (.bool q.he) from rfl)
  go_upto_region 5 with (first
    | (refine wpLoadAsk rfl _ rfl (w.heap.size) rfl q s A n c0 P2.out ?_)
    | (refine wpList_load_row rfl 26 (.tmp 7) rfl (w1.heap.size) rfl 26 _ (0, 0) _ C2.out Try.underlying26 rfl (Cur.i26 _) ?_)
    | (go_at_call 18; (with_reducible refine (KM.out _ D2.out).mono ?_); rintro e w3 ⟨rfl, hb3⟩; have P3 := Lib.hid (bkBelow P2.out hb3); have D3 := Lib.hid (D2.out.later hb3); have C3 := Lib.hid (bkBelow C2.out hb3); have B3 := bdT B2 B2.size hb3; clear P2 D2 C2)
    | (refine wpList_store_row rfl 26 (.tmp 8) (.tmp 44) rfl (w3.heap.size) (Cur.cs M) rfl rfl 26 _ (heap_alloc_new w3 (Obj.cells #[iv 0, iv 0, .bool false, .bool false] 26)) (Cur.i26 _) (Cur.sz Cur.zero _) (Cur.one _) ?_; have K4 := below_setRow ((Below.refl w3.heap.size w3).alloc (Nat.le_refl _) (Obj.cells #[iv 0, iv 0, .bool false, .bool false] 26)) (g := w3.heap.size) (Nat.le_refl _) (Cur.cs M); have P4 := Lib.hid (bkBelow P3.out K4); have D4 := Lib.hid (D3.out.later K4); have C4 := Lib.hid (bkBelow C3.out K4); have B4 := bdT B3 B3.size K4; have M4 := Lib.hid (setRow_heap _ _ _ (Cur.cs M) _ _ (heap_alloc_new w3 (Obj.cells #[iv 0, iv 0, .bool false, .bool false] 26))); clear P3 D3 C3))
  go_upto_region 7 with (fail)
  have y26 := (bkCell P4.out 26).trans (show _ = some (.bool q.he) from rfl)
  go_upto_region 8 with (first
    | (refine wpLoadAsk rfl _ rfl (w.heap.size) rfl q s A n c0 P4.out ?_)
    | (refine wpList_load_row rfl 26 (.tmp 8) rfl (w3.heap.size) rfl 26 _ (0, 0) _ M4.out Try.underlying26 rfl (Cur.i26 _) ?_)
    | (go_at_call 18; (with_reducible refine (KN.out _ D4.out).mono ?_); rintro e w5 ⟨rfl, hb5⟩; have P5 := Lib.hid (bkBelow P4.out hb5); have D5 := Lib.hid (D4.out.later hb5); have C5 := Lib.hid (bkBelow C4.out hb5); have M5 := Lib.hid (bkBelow M4.out hb5); have B5 := bdT B4 B4.size hb5; clear P4 D4 C4 M4)
    | (refine wpList_store_row rfl 26 (.tmp 10) (.tmp 67) rfl (w5.heap.size) (Cur.cs X) rfl rfl 26 _ (heap_alloc_new w5 (Obj.cells #[iv 0, iv 0, .bool false, .bool false] 26)) (Cur.i26 _) (Cur.sz Cur.zero _) (Cur.one _) ?_; have K6 := below_setRow ((Below.refl w5.heap.size w5).alloc (Nat.le_refl _) (Obj.cells #[iv 0, iv 0, .bool false, .bool false] 26)) (g := w5.heap.size) (Nat.le_refl _) (Cur.cs X); have P6 := Lib.hid (bkBelow P5.out K6); have D6 := Lib.hid (D5.out.later K6); have C6 := Lib.hid (bkBelow C5.out K6); have M6 := Lib.hid (bkBelow M5.out K6); have B6 := bdT B5 B5.size K6; have X6 := Lib.hid (setRow_heap _ _ _ (Cur.cs X) _ _ (heap_alloc_new w5 (Obj.cells #[iv 0, iv 0, .bool false, .bool false] 26))); clear P5 D5 C5 M5))
  have x26 := (bkCell P6.out 26).trans (show _ = some (.bool q.he) from rfl)
  have wp := Wp.out
  go_upto_region 9 with (first
    | (refine wpLoadAsk rfl _ rfl (w.heap.size) rfl q s A n c0 P6.out ?_)
    | (refine wpList_load_row rfl 26 (.tmp 7) rfl (w1.heap.size) rfl 26 _ (0, 0) _ C6.out Try.underlying26 rfl (Cur.i26 _) ?_)
    | (go_at_call 18; (with_reducible refine (KO.out _ D6.out).mono ?_); rintro e w7 ⟨rfl, hb7⟩; have P7 := Lib.hid (bkBelow P6.out hb7); have D7 := Lib.hid (D6.out.later hb7); have C7 := Lib.hid (bkBelow C6.out hb7); have M7 := Lib.hid (bkBelow M6.out hb7); have X7 := Lib.hid (bkBelow X6.out hb7); have B7 := bdT B6 B6.size hb7; clear P6 D6 C6 M6 X6)
    | (refine wpList_store_row rfl 26 (.tmp 12) (.tmp 79) rfl (w7.heap.size) (Cur.cs X) rfl rfl 26 _ (heap_alloc_new w7 (Obj.cells #[iv 0, iv 0, .bool false, .bool false] 26)) (Cur.i26 _) (Cur.sz Cur.zero _) (Cur.one _) ?_; have K8 := below_setRow ((Below.refl w7.heap.size w7).alloc (Nat.le_refl _) (Obj.cells #[iv 0, iv 0, .bool false, .bool false] 26)) (g := w7.heap.size) (Nat.le_refl _) (Cur.cs X); have P8 := Lib.hid (bkBelow P7.out K8); have D8 := Lib.hid (D7.out.later K8); have C8 := Lib.hid (bkBelow C7.out K8); have M8 := Lib.hid (bkBelow M7.out K8); have X8 := Lib.hid (bkBelow X7.out K8); have B8 := bdT B7 B7.size K8; have Y8 := Lib.hid (setRow_heap _ _ _ (Cur.cs X) _ _ (heap_alloc_new w7 (Obj.cells #[iv 0, iv 0, .bool false, .bool false] 26))); clear P7 D7 C7 M7 X7))
  clear wp
  have eqx := EQ.out
  go_wp2_with (first
    | (refine gdOn (by rfl) ?_; refine wpList_load_row rfl 26 (.tmp 10) rfl (w5.heap.size) rfl 26 _ (0, 0) _ X8.out Try.underlying26 rfl (Cur.i26 _) ?_)
    | (refine gdOn (by rfl) ?_; refine wpList_load_row rfl 26 (.tmp 12) rfl (w7.heap.size) rfl 26 _ (0, 0) _ Y8.out Try.underlying26 rfl (Cur.i26 _) ?_)
    | (go_at_call 16; (with_reducible refine (awake_any _).mono ?_); rintro e wz ⟨rfl, hbz⟩))
  go_ret
  exact ⟨rfl, bdT B8 B8.size hbz⟩
theorem splits_any (q : Q) (s : S) (A : Option Addr) (n c0 b o : Nat) (xs : Nat → Int) (p r : Int) (ho : -9223372036854775808 ≤ q.off ∧ q.off ≤ 9223372036854775807) (hn : n ≤ 9223372036854775807) (hc0 : n ≤ c0) (w : World) (hA : DataAt w A n b o xs) : Calls Try.prog 4 #[.agg (q.cs s A n c0), iv p, iv r] w fun e w' => e = .returned (.bool true) ∧ Below w.heap.size w w' := by
  by_cases h1 : p < 0
  · exact splits_g1 q s A n c0 b o xs p r h1 hn hc0 w hA
  by_cases h2 : r < 0
  · exact splits_g2 q s A n c0 b o xs p r (by omega) h2 hn hc0 w hA
  by_cases h3 : 268435456 < p
  · exact splits_g3 q s A n c0 b o xs p r (by omega) (by omega) h3 hn hc0 w hA
  by_cases h4 : 268435456 - p < r
  · exact splits_g4 q s A n c0 b o xs p r (by omega) (by omega) (by omega) h4 hn hc0 w hA
  cases hv : vS s n xs
  · exact splits_bad q s A n c0 b o xs p r ho (by omega) (by omega) (by omega) (by omega) hv hn hc0 w hA
  · exact splits_ok q s A n c0 b o xs p r ho (by omega) (by omega) (by omega) (by omega) hv hn hc0 w hA
theorem splits_law (q : Q) (s : S) (A : Option Addr) (n c0 : Nat) (zs : List Int) (p r : Int) (ho : (Lit.int .i64 q.off).wf = true) (w : World) (h : RowOf w A n c0 zs) : Calls Try.prog 4 #[.agg (q.cs s A n c0), iv p, iv r] w fun e w' => e = .returned (.bool true) ∧ Below w.heap.size w w' := by
  obtain ⟨k1, hn, b, o, d1⟩ := dataOf h
  exact splits_any q s A n c0 b o _ p r (wfR ho) hn k1 w d1
end Go.Proofs.Ytnmoiolddfboiaa.SX

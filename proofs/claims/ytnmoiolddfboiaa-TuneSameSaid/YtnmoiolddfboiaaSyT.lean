/- A sample at its own rate is itself. -/
import Derived.Test.YtnmoiolddfboiaaSyS
namespace Go.Proofs.Ytnmoiolddfboiaa.SX
open Go.RowKit Go.Proofs.YtnmoiolddfboiaaW.PrintLast Go.Proofs.Ytnmoiolddfboiaa.TX Go.Proofs.Ytnmoiolddfboiaa.Cu
set_option linter.unusedVariables false
set_option linter.unusedSimpArgs false
theorem wt_mid {K : Nat} (hK : K ≤ 2) : wt K 0 3 ≠ 0 := by
  rcases (by omega : K = 0 ∨ K = 1 ∨ K = 2) with rfl | rfl | rfl <;> decide
theorem v8_mid {K : Nat} (hK : K ≤ 2) (F : Nat → Int) : v8 K 0 F = F 3 := by
  rw [v8_fin]
  rcases (by omega : K = 0 ∨ K = 1 ∨ K = 2) with rfl | rfl | rfl
  · rw [show sm8 (wt 0 0) F 8 = F 3 from by simp [sm8, wt, wts]]
    rfl
  · rw [show sm8 (wt 1 0) F 8 = 256 * F 3 from by simp [sm8, wt, wts]]
    show 256 * F 3 / 256 = F 3
    omega
  · rw [show sm8 (wt 2 0) F 8 = 33554432 * F 3 from by simp [sm8, wt, wts]]
    show 33554432 * F 3 / 33554432 = F 3
    omega
theorem rsX_self {p : Int} (hp : 1 ≤ p) (i : Nat) : rsX p p i = (i : Int) * 65536 := by
  unfold rsX
  rw [Int.mul_assoc, Int.mul_comm p 65536, ← Int.mul_assoc]
  exact Int.mul_ediv_cancel _ (by omega)
theorem rsV_self {s : S} {n : Nat} {xs : Nat → Int} {p : Int} (hp : 1 ≤ p) {K : Nat} (hK : K ≤ 2) (i : Nat) : rsV s n xs p p K i = hrd (plainS s) n xs i := by
  have hx := rsX_self hp i
  have hc : rsC p p i = ⟨(i : Int), 0, false, false⟩ := by
    unfold rsC
    rw [hx, show (i : Int) * 65536 / 65536 = i by omega, show (i : Int) * 65536 % 65536 = 0 by omega]
  unfold rsV sndM tapsF
  rw [hc]
  show v8 K 0 (tpF (wt K 0) _) = _
  rw [v8_mid hK]
  unfold tpF
  rw [if_neg (wt_mid hK)]
  unfold tapM
  simp
theorem rsmF_self {s : S} {n : Nat} {xs : Nat → Int} (hv : vS s n xs = true) {p : Int} (hp : 1 ≤ p) {K : Nat} (hK : K ≤ 2) {i : Nat} (hi : i < n) : rsmF s n xs p p K i = xs i := by
  have h5 := (vS_yes hv).2.2.2.2.1 i hi
  have hh : hrd (plainS s) n xs i = if s.a2 = 8 then xs i * 256 else xs i := by
    unfold hrd
    rw [if_neg (by omega)]
    rfl
  unfold rsmF rsW
  rw [rsV_self hp hK, hh]
  by_cases e : s.a2 = 8
  · rw [if_pos e, if_pos e, show (xs i * 256 + 128) / 256 = xs i by omega]
    unfold clp
    rw [if_neg (by omega), if_neg (by omega)]
  · rw [if_neg e, if_neg e]
    unfold clp
    rw [if_neg (by omega), if_neg (by omega)]
theorem sclK_self {k a b : Int} {n : Nat} (h : LpOk k a b n) {p : Int} (hp : 1 ≤ p) : sclK k a b p p = (k, a, b) := by
  unfold sclK
  rw [Int.mul_ediv_cancel _ (show p ≠ 0 by omega), Int.mul_ediv_cancel _ (show p ≠ 0 by omega)]
  unfold LpOk at h
  by_cases c : k = 0 ∨ b ≤ a
  · rw [if_pos c]
    have : k = 0 ∧ a = 0 ∧ b = 0 := by omega
    rw [this.1, this.2.1, this.2.2]
  · rw [if_neg c]
theorem rsmS_self {s : S} {n : Nat} {xs : Nat → Int} (hv : vS s n xs = true) {p : Int} (hp : 1 ≤ p) : rsmS s p p = s := by
  obtain ⟨h1, h2, h3, h4, h5, h6, h7, h8⟩ := vS_yes hv
  unfold RgOk at h6
  unfold rsmS
  rw [sclK_self h7 hp, sclK_self h8 hp, Int.mul_ediv_cancel _ (show p ≠ 0 by omega), show rateR s.a3 = s.a3 from by unfold rateR; rw [if_neg (by omega), if_neg (by omega)]]
theorem tres_self (s : S) (A : Option Addr) (n c0 b o : Nat) (xs : Nat → Int) (p : Int) (K : Nat) (hv : vS s n xs = true) (hK : K ≤ 2) (hp : 1 ≤ p ∧ p ≤ 10000) (hn : n ≤ 9223372036854775807) (hc0 : n ≤ c0) (w : World) (hA : DataAt w A n b o xs) :
    Calls Try.prog 47 #[.agg (s.cs A n c0), iv p, iv p, iv K] w fun e w' => ∃ A' c' b' o', e = .returned (.tuple #[.agg (s.cs A' n c'), iv 0]) ∧ DataAt w' A' n b' o' xs ∧ Below w.heap.size w w' := by
  have hm : (n : Int) * p / p = n := Int.mul_ediv_cancel _ (by omega)
  have h := gives_Dc (gives_D (tres_ok s A n c0 b o xs p p K n hv (by omega) hp hp hm (vS_yes hv).2.2.1 hn hc0 w hA))
  rw [rsmS_self hv hp.1] at h
  exact h.mono fun e w' ⟨A', c', b', o', h1, h2, h3⟩ => ⟨A', c', b', o', h1, h2.congr fun i hi => rsmF_self hv hp.1 hK hi, h3⟩
set_option maxHeartbeats 16000000 in
set_option maxRecDepth 100000 in
theorem slf_wild (s : S) (A : Option Addr) (n c0 b o : Nat) (xs : Nat → Int) (p : Int) (kind : Int) (ht : decide (n ≤ 5000 ∧ s.nm.size ≤ 100) = false) (hn : n ≤ 9223372036854775807) (hc0 : n ≤ c0) (w : World) (hA : DataAt w A n b o xs) : Calls Try.prog 13 #[.agg (s.cs A n c0), iv p, iv kind] w fun e w' => e = .returned (.bool true) ∧ Below w.heap.size w w' := by
  have B0 : Below w.heap.size w (w.alloc (Obj.cells (s.cs A n c0) 24)) := (Below.refl _ _).alloc (Nat.le_refl _) _
  have P0 := Lib.hid (show (w.alloc (Obj.cells (s.cs A n c0) 24)).heap[w.heap.size]? = some (.cells (s.cs A n c0) 24 (0, 0)) from heap_alloc_new w _)
  have D0 := Lib.hid (hA.later B0)
  have TQ := Lib.hid fun (W : World) => tame_any s A n c0 W
  have VC := Lib.hid fun (W : World) (h : DataAt W A n b o xs) => rvalid_any s A n c0 b o xs hn hc0 W h
  rw [ht] at TQ
  clear ht hA
  go_enter Try.func13, Try.ntmps13
  go_wp2_with (first
    | (refine wpList_load_row rfl 24 (.tmp 3) rfl (w.heap.size) rfl 24 _ (0, 0) _ P0.out Try.underlying24 rfl (S.i24 _ _ _ _) ?_)
    | (go_at_call 46; (with_reducible refine (TQ.out _).mono ?_); rintro e w1 ⟨rfl, hb1⟩; have P1 := Lib.hid (bkBelow P0.out hb1); have D1 := Lib.hid (D0.out.later hb1); have B1 := bdT B0 B0.size hb1))
  go_ret
  exact ⟨rfl, B1⟩
set_option maxHeartbeats 16000000 in
set_option maxRecDepth 100000 in
theorem slf_bad (s : S) (A : Option Addr) (n c0 b o : Nat) (xs : Nat → Int) (p : Int) (kind : Int) (ht : decide (n ≤ 5000 ∧ s.nm.size ≤ 100) = true) (hv : vS s n xs = false) (hn : n ≤ 9223372036854775807) (hc0 : n ≤ c0) (w : World) (hA : DataAt w A n b o xs) : Calls Try.prog 13 #[.agg (s.cs A n c0), iv p, iv kind] w fun e w' => e = .returned (.bool true) ∧ Below w.heap.size w w' := by
  have B0 : Below w.heap.size w (w.alloc (Obj.cells (s.cs A n c0) 24)) := (Below.refl _ _).alloc (Nat.le_refl _) _
  have P0 := Lib.hid (show (w.alloc (Obj.cells (s.cs A n c0) 24)).heap[w.heap.size]? = some (.cells (s.cs A n c0) 24 (0, 0)) from heap_alloc_new w _)
  have D0 := Lib.hid (hA.later B0)
  have TQ := Lib.hid fun (W : World) => tame_any s A n c0 W
  have VC := Lib.hid fun (W : World) (h : DataAt W A n b o xs) => rvalid_any s A n c0 b o xs hn hc0 W h
  rw [ht] at TQ
  rw [hv] at VC
  clear ht hv hA
  go_enter Try.func13, Try.ntmps13
  go_wp2_with (first
    | (refine wpList_load_row rfl 24 (.tmp 3) rfl (w.heap.size) rfl 24 _ (0, 0) _ P0.out Try.underlying24 rfl (S.i24 _ _ _ _) ?_)
    | (go_at_call 46; (with_reducible refine (TQ.out _).mono ?_); rintro e w1 ⟨rfl, hb1⟩; have P1 := Lib.hid (bkBelow P0.out hb1); have D1 := Lib.hid (D0.out.later hb1); have B1 := bdT B0 B0.size hb1)
    | (refine gdOn (by rfl) ?_; refine wpList_load_row rfl 24 (.tmp 3) rfl (w.heap.size) rfl 24 _ (0, 0) _ P1.out Try.underlying24 rfl (S.i24 _ _ _ _) ?_)
    | (go_at_call 25; (with_reducible refine (VC.out _ D1.out).mono ?_); rintro e w2 ⟨rfl, hb2⟩; have P2 := Lib.hid (bkBelow P1.out hb2); have D2 := Lib.hid (D1.out.later hb2); have B2 := bdT B1 B1.size hb2))
  go_ret
  exact ⟨rfl, B2⟩
set_option maxHeartbeats 16000000 in
set_option maxRecDepth 100000 in
theorem slf_r0 (s : S) (A : Option Addr) (n c0 b o : Nat) (xs : Nat → Int) (p : Int) (kind : Int) (ht : decide (n ≤ 5000 ∧ s.nm.size ≤ 100) = true) (hv : vS s n xs = true) (h1 : p < 1) (hn : n ≤ 9223372036854775807) (hc0 : n ≤ c0) (w : World) (hA : DataAt w A n b o xs) : Calls Try.prog 13 #[.agg (s.cs A n c0), iv p, iv kind] w fun e w' => e = .returned (.bool true) ∧ Below w.heap.size w w' := by
  have B0 : Below w.heap.size w (w.alloc (Obj.cells (s.cs A n c0) 24)) := (Below.refl _ _).alloc (Nat.le_refl _) _
  have P0 := Lib.hid (show (w.alloc (Obj.cells (s.cs A n c0) 24)).heap[w.heap.size]? = some (.cells (s.cs A n c0) 24 (0, 0)) from heap_alloc_new w _)
  have D0 := Lib.hid (hA.later B0)
  have TQ := Lib.hid fun (W : World) => tame_any s A n c0 W
  have VC := Lib.hid fun (W : World) (h : DataAt W A n b o xs) => rvalid_any s A n c0 b o xs hn hc0 W h
  rw [ht] at TQ
  rw [hv] at VC
  have d1 : decide (p < 1) = true := decide_eq_true (by omega)
  clear ht hv hA
  go_enter Try.func13, Try.ntmps13
  go_wp2_with (first
    | (refine wpList_load_row rfl 24 (.tmp 3) rfl (w.heap.size) rfl 24 _ (0, 0) _ P0.out Try.underlying24 rfl (S.i24 _ _ _ _) ?_)
    | (go_at_call 46; (with_reducible refine (TQ.out _).mono ?_); rintro e w1 ⟨rfl, hb1⟩; have P1 := Lib.hid (bkBelow P0.out hb1); have D1 := Lib.hid (D0.out.later hb1); have B1 := bdT B0 B0.size hb1)
    | (refine gdOn (by rfl) ?_; refine wpList_load_row rfl 24 (.tmp 3) rfl (w.heap.size) rfl 24 _ (0, 0) _ P1.out Try.underlying24 rfl (S.i24 _ _ _ _) ?_)
    | (go_at_call 25; (with_reducible refine (VC.out _ D1.out).mono ?_); rintro e w2 ⟨rfl, hb2⟩; have P2 := Lib.hid (bkBelow P1.out hb2); have D2 := Lib.hid (D1.out.later hb2); have B2 := bdT B1 B1.size hb2))
  go_ret
  exact ⟨rfl, B2⟩
set_option maxHeartbeats 16000000 in
set_option maxRecDepth 100000 in
theorem slf_r1 (s : S) (A : Option Addr) (n c0 b o : Nat) (xs : Nat → Int) (p : Int) (kind : Int) (ht : decide (n ≤ 5000 ∧ s.nm.size ≤ 100) = true) (hv : vS s n xs = true) (h1 : 1 ≤ p) (h2 : 10000 < p) (hn : n ≤ 9223372036854775807) (hc0 : n ≤ c0) (w : World) (hA : DataAt w A n b o xs) : Calls Try.prog 13 #[.agg (s.cs A n c0), iv p, iv kind] w fun e w' => e = .returned (.bool true) ∧ Below w.heap.size w w' := by
  have B0 : Below w.heap.size w (w.alloc (Obj.cells (s.cs A n c0) 24)) := (Below.refl _ _).alloc (Nat.le_refl _) _
  have P0 := Lib.hid (show (w.alloc (Obj.cells (s.cs A n c0) 24)).heap[w.heap.size]? = some (.cells (s.cs A n c0) 24 (0, 0)) from heap_alloc_new w _)
  have D0 := Lib.hid (hA.later B0)
  have TQ := Lib.hid fun (W : World) => tame_any s A n c0 W
  have VC := Lib.hid fun (W : World) (h : DataAt W A n b o xs) => rvalid_any s A n c0 b o xs hn hc0 W h
  rw [ht] at TQ
  rw [hv] at VC
  have d1 : decide (p < 1) = false := decide_eq_false (by omega)
  have d2 : decide (10000 < p) = true := decide_eq_true (by omega)
  clear ht hv hA
  go_enter Try.func13, Try.ntmps13
  go_wp2_with (first
    | (refine wpList_load_row rfl 24 (.tmp 3) rfl (w.heap.size) rfl 24 _ (0, 0) _ P0.out Try.underlying24 rfl (S.i24 _ _ _ _) ?_)
    | (go_at_call 46; (with_reducible refine (TQ.out _).mono ?_); rintro e w1 ⟨rfl, hb1⟩; have P1 := Lib.hid (bkBelow P0.out hb1); have D1 := Lib.hid (D0.out.later hb1); have B1 := bdT B0 B0.size hb1)
    | (refine gdOn (by rfl) ?_; refine wpList_load_row rfl 24 (.tmp 3) rfl (w.heap.size) rfl 24 _ (0, 0) _ P1.out Try.underlying24 rfl (S.i24 _ _ _ _) ?_)
    | (go_at_call 25; (with_reducible refine (VC.out _ D1.out).mono ?_); rintro e w2 ⟨rfl, hb2⟩; have P2 := Lib.hid (bkBelow P1.out hb2); have D2 := Lib.hid (D1.out.later hb2); have B2 := bdT B1 B1.size hb2))
  go_ret
  exact ⟨rfl, B2⟩
set_option maxHeartbeats 16000000 in
set_option maxRecDepth 100000 in
theorem slf_r2 (s : S) (A : Option Addr) (n c0 b o : Nat) (xs : Nat → Int) (p : Int) (kind : Int) (ht : decide (n ≤ 5000 ∧ s.nm.size ≤ 100) = true) (hv : vS s n xs = true) (h1 : 1 ≤ p) (h2 : p ≤ 10000) (h3 : kind < 0) (hn : n ≤ 9223372036854775807) (hc0 : n ≤ c0) (w : World) (hA : DataAt w A n b o xs) : Calls Try.prog 13 #[.agg (s.cs A n c0), iv p, iv kind] w fun e w' => e = .returned (.bool true) ∧ Below w.heap.size w w' := by
  have B0 : Below w.heap.size w (w.alloc (Obj.cells (s.cs A n c0) 24)) := (Below.refl _ _).alloc (Nat.le_refl _) _
  have P0 := Lib.hid (show (w.alloc (Obj.cells (s.cs A n c0) 24)).heap[w.heap.size]? = some (.cells (s.cs A n c0) 24 (0, 0)) from heap_alloc_new w _)
  have D0 := Lib.hid (hA.later B0)
  have TQ := Lib.hid fun (W : World) => tame_any s A n c0 W
  have VC := Lib.hid fun (W : World) (h : DataAt W A n b o xs) => rvalid_any s A n c0 b o xs hn hc0 W h
  rw [ht] at TQ
  rw [hv] at VC
  have d1 : decide (p < 1) = false := decide_eq_false (by omega)
  have d2 : decide (10000 < p) = false := decide_eq_false (by omega)
  have d3 : decide (kind < 0) = true := decide_eq_true (by omega)
  clear ht hv hA
  go_enter Try.func13, Try.ntmps13
  go_wp2_with (first
    | (refine wpList_load_row rfl 24 (.tmp 3) rfl (w.heap.size) rfl 24 _ (0, 0) _ P0.out Try.underlying24 rfl (S.i24 _ _ _ _) ?_)
    | (go_at_call 46; (with_reducible refine (TQ.out _).mono ?_); rintro e w1 ⟨rfl, hb1⟩; have P1 := Lib.hid (bkBelow P0.out hb1); have D1 := Lib.hid (D0.out.later hb1); have B1 := bdT B0 B0.size hb1)
    | (refine gdOn (by rfl) ?_; refine wpList_load_row rfl 24 (.tmp 3) rfl (w.heap.size) rfl 24 _ (0, 0) _ P1.out Try.underlying24 rfl (S.i24 _ _ _ _) ?_)
    | (go_at_call 25; (with_reducible refine (VC.out _ D1.out).mono ?_); rintro e w2 ⟨rfl, hb2⟩; have P2 := Lib.hid (bkBelow P1.out hb2); have D2 := Lib.hid (D1.out.later hb2); have B2 := bdT B1 B1.size hb2))
  go_ret
  exact ⟨rfl, B2⟩
set_option maxHeartbeats 16000000 in
set_option maxRecDepth 100000 in
theorem slf_r3 (s : S) (A : Option Addr) (n c0 b o : Nat) (xs : Nat → Int) (p : Int) (kind : Int) (ht : decide (n ≤ 5000 ∧ s.nm.size ≤ 100) = true) (hv : vS s n xs = true) (h1 : 1 ≤ p) (h2 : p ≤ 10000) (h3 : 0 ≤ kind) (h4 : 2 < kind) (hn : n ≤ 9223372036854775807) (hc0 : n ≤ c0) (w : World) (hA : DataAt w A n b o xs) : Calls Try.prog 13 #[.agg (s.cs A n c0), iv p, iv kind] w fun e w' => e = .returned (.bool true) ∧ Below w.heap.size w w' := by
  have B0 : Below w.heap.size w (w.alloc (Obj.cells (s.cs A n c0) 24)) := (Below.refl _ _).alloc (Nat.le_refl _) _
  have P0 := Lib.hid (show (w.alloc (Obj.cells (s.cs A n c0) 24)).heap[w.heap.size]? = some (.cells (s.cs A n c0) 24 (0, 0)) from heap_alloc_new w _)
  have D0 := Lib.hid (hA.later B0)
  have TQ := Lib.hid fun (W : World) => tame_any s A n c0 W
  have VC := Lib.hid fun (W : World) (h : DataAt W A n b o xs) => rvalid_any s A n c0 b o xs hn hc0 W h
  rw [ht] at TQ
  rw [hv] at VC
  have d1 : decide (p < 1) = false := decide_eq_false (by omega)
  have d2 : decide (10000 < p) = false := decide_eq_false (by omega)
  have d3 : decide (kind < 0) = false := decide_eq_false (by omega)
  have d4 : decide (2 < kind) = true := decide_eq_true (by omega)
  clear ht hv hA
  go_enter Try.func13, Try.ntmps13
  go_wp2_with (first
    | (refine wpList_load_row rfl 24 (.tmp 3) rfl (w.heap.size) rfl 24 _ (0, 0) _ P0.out Try.underlying24 rfl (S.i24 _ _ _ _) ?_)
    | (go_at_call 46; (with_reducible refine (TQ.out _).mono ?_); rintro e w1 ⟨rfl, hb1⟩; have P1 := Lib.hid (bkBelow P0.out hb1); have D1 := Lib.hid (D0.out.later hb1); have B1 := bdT B0 B0.size hb1)
    | (refine gdOn (by rfl) ?_; refine wpList_load_row rfl 24 (.tmp 3) rfl (w.heap.size) rfl 24 _ (0, 0) _ P1.out Try.underlying24 rfl (S.i24 _ _ _ _) ?_)
    | (go_at_call 25; (with_reducible refine (VC.out _ D1.out).mono ?_); rintro e w2 ⟨rfl, hb2⟩; have P2 := Lib.hid (bkBelow P1.out hb2); have D2 := Lib.hid (D1.out.later hb2); have B2 := bdT B1 B1.size hb2))
  go_ret
  exact ⟨rfl, B2⟩
set_option maxHeartbeats 16000000 in
set_option maxRecDepth 100000 in
theorem slf_ok (s : S) (A : Option Addr) (n c0 b o : Nat) (xs : Nat → Int) (p : Int) (kind : Nat) (ht : decide (n ≤ 5000 ∧ s.nm.size ≤ 100) = true) (hv : vS s n xs = true) (h1 : 1 ≤ p) (h2 : p ≤ 10000) (h4 : kind ≤ 2) (hn : n ≤ 9223372036854775807) (hc0 : n ≤ c0) (w : World) (hA : DataAt w A n b o xs) : Calls Try.prog 13 #[.agg (s.cs A n c0), iv p, iv kind] w fun e w' => e = .returned (.bool true) ∧ Below w.heap.size w w' := by
  have B0 : Below w.heap.size w (w.alloc (Obj.cells (s.cs A n c0) 24)) := (Below.refl _ _).alloc (Nat.le_refl _) _
  have P0 := Lib.hid (show (w.alloc (Obj.cells (s.cs A n c0) 24)).heap[w.heap.size]? = some (.cells (s.cs A n c0) 24 (0, 0)) from heap_alloc_new w _)
  have D0 := Lib.hid (hA.later B0)
  have TQ := Lib.hid fun (W : World) => tame_any s A n c0 W
  have VC := Lib.hid fun (W : World) (h : DataAt W A n b o xs) => rvalid_any s A n c0 b o xs hn hc0 W h
  rw [ht] at TQ
  rw [hv] at VC
  have hn4 := (vS_yes hv).2.2.1
  have RS := Lib.hid fun (W : World) (h : DataAt W A n b o xs) => tres_self s A n c0 b o xs p kind hv h4 ⟨h1, h2⟩ hn hc0 W h
  have SS := Lib.hid fun (A1 : Option Addr) (c1 b1 o1 : Nat) (W : World) (h : DataAt W A1 n b1 o1 xs) (k : DataAt W A n b o xs) => sameSample_any s A1 n c1 A c0 b1 o1 b o xs (by omega) W h k
  have d1 : decide (p < 1) = false := decide_eq_false (by omega)
  have d2 : decide (10000 < p) = false := decide_eq_false (by omega)
  have d3 : decide ((kind : Int) < 0) = false := decide_eq_false (by omega)
  have d4 : decide (2 < (kind : Int)) = false := decide_eq_false (by omega)
  have n4 : decide (2 < kind) = false := decide_eq_false (by omega)
  clear ht hv hA hn4 h1 h2 h4
  go_enter Try.func13, Try.ntmps13
  go_upto_region 3 with (first
    | (refine wpList_load_row rfl 24 (.tmp 3) rfl (w.heap.size) rfl 24 _ (0, 0) _ P0.out Try.underlying24 rfl (S.i24 _ _ _ _) ?_)
    | (go_at_call 46; (with_reducible refine (TQ.out _).mono ?_); rintro e w1 ⟨rfl, hb1⟩; have P1 := Lib.hid (bkBelow P0.out hb1); have D1 := Lib.hid (D0.out.later hb1); have B1 := bdT B0 B0.size hb1)
    | (refine gdOn (by rfl) ?_; refine wpList_load_row rfl 24 (.tmp 3) rfl (w.heap.size) rfl 24 _ (0, 0) _ P1.out Try.underlying24 rfl (S.i24 _ _ _ _) ?_)
    | (go_at_call 25; (with_reducible refine (VC.out _ D1.out).mono ?_); rintro e w2 ⟨rfl, hb2⟩; have P2 := Lib.hid (bkBelow P1.out hb2); have D2 := Lib.hid (D1.out.later hb2); have B2 := bdT B1 B1.size hb2))
  clear d1 d2 d3 d4 n4
  go_upto_region 4 with (first
    | (refine wpList_load_row rfl 24 (.tmp 3) rfl (w.heap.size) rfl 24 _ (0, 0) _ P2.out Try.underlying24 rfl (S.i24 _ _ _ _) ?_)
    | (go_at_call 47; (with_reducible refine (RS.out _ D2.out).mono ?_); rintro e w3 ⟨A1, c1, b1, o1, rfl, X1, hb3⟩; have P3 := Lib.hid (bkBelow P2.out hb3); have D3 := Lib.hid (D2.out.later hb3); have B3 := bdT B2 B2.size hb3; have E3 := Lib.hid (X1); clear P2 D2)
    | (refine wpList_store_row rfl 24 (.tmp 7) (.tmp 39) rfl (w3.heap.size) (s.cs A1 n c1) rfl rfl 24 _ (heap_alloc_new w3 (Obj.cells #[Value.string ⟨#[]⟩, Value.slice none 0 0, iv 0, iv 0, iv 0, iv 0, iv 0, iv 0, iv 0, iv 0, iv 0, iv 0, iv 0] 24)) (S.i24 _ _ _ _) (S.sz S.zero _ none _ 0 0 _ _) (S.one _ _ _ _) ?_; have K4 := below_setRow ((Below.refl w3.heap.size w3).alloc (Nat.le_refl _) (Obj.cells #[Value.string ⟨#[]⟩, Value.slice none 0 0, iv 0, iv 0, iv 0, iv 0, iv 0, iv 0, iv 0, iv 0, iv 0, iv 0, iv 0] 24)) (g := w3.heap.size) (Nat.le_refl _) (s.cs A1 n c1); have P4 := Lib.hid (bkBelow P3.out K4); have D4 := Lib.hid (D3.out.later K4); have E4 := Lib.hid (E3.out.later K4); have B4 := bdT B3 B3.size K4; have T4 := Lib.hid (setRow_heap _ _ _ (s.cs A1 n c1) _ _ (heap_alloc_new w3 (Obj.cells #[Value.string ⟨#[]⟩, Value.slice none 0 0, iv 0, iv 0, iv 0, iv 0, iv 0, iv 0, iv 0, iv 0, iv 0, iv 0, iv 0] 24))); clear P3 D3 E3))
  have SC := Lib.hid (SS.out A1 c1 b1 o1 _ E4.out D4.out)
  go_wp2_with (first
    | (refine gdOn (by rfl) ?_; refine wpList_load_row rfl 24 (.tmp 7) rfl (w3.heap.size) rfl 24 _ (0, 0) _ T4.out Try.underlying24 rfl (S.i24 _ _ _ _) ?_)
    | (refine gdOn (by rfl) ?_; refine wpList_load_row rfl 24 (.tmp 3) rfl (w.heap.size) rfl 24 _ (0, 0) _ P4.out Try.underlying24 rfl (S.i24 _ _ _ _) ?_)
    | (go_at_call 50; (with_reducible refine SC.out.mono ?_); rintro e w5 ⟨rfl, hb5⟩))
  go_ret
  exact ⟨rfl, bdT B4 B4.size hb5⟩
theorem slf_law (s : S) (A : Option Addr) (n c0 : Nat) (zs : List Int) (p kind : Int) (w : World) (h : RowOf w A n c0 zs) : Calls Try.prog 13 #[.agg (s.cs A n c0), iv p, iv kind] w fun e w' => e = .returned (.bool true) ∧ Below w.heap.size w w' := by
  obtain ⟨k1, hn, b, o, d1⟩ := dataOf h
  generalize (fun i => zs.getD i 0) = xs at d1
  cases ht : decide (n ≤ 5000 ∧ s.nm.size ≤ 100)
  · exact slf_wild s A n c0 b o xs p kind ht hn k1 w d1
  cases hv : vS s n xs
  · exact slf_bad s A n c0 b o xs p kind ht hv hn k1 w d1
  by_cases h1 : p < 1
  · exact slf_r0 s A n c0 b o xs p kind ht hv h1 hn k1 w d1
  by_cases h2 : 10000 < p
  · exact slf_r1 s A n c0 b o xs p kind ht hv (by omega) h2 hn k1 w d1
  by_cases h3 : kind < 0
  · exact slf_r2 s A n c0 b o xs p kind ht hv (by omega) (by omega) h3 hn k1 w d1
  by_cases h4 : 2 < kind
  · exact slf_r3 s A n c0 b o xs p kind ht hv (by omega) (by omega) (by omega) h4 hn k1 w d1
  obtain ⟨K, rfl⟩ := Int.eq_ofNat_of_zero_le (show 0 ≤ kind by omega)
  exact slf_ok s A n c0 b o xs p K ht hv (by omega) (by omega) (by omega) hn k1 w d1
end Go.Proofs.Ytnmoiolddfboiaa.SX

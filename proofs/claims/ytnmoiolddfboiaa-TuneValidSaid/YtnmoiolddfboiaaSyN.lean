/- The values on a way through a sample, both packages. -/
import Derived.Test.YtnmoiolddfboiaaSyL
namespace Go.Proofs.Ytnmoiolddfboiaa.SX
open Go.RowKit Go.Proofs.YtnmoiolddfboiaaW.PrintLast Go.Proofs.Ytnmoiolddfboiaa.TX Go.Proofs.Ytnmoiolddfboiaa.Cu
set_option linter.unusedVariables false
set_option linter.unusedSimpArgs false
/-- a kind as cells -/
def kc : Nat → Array Value
  | 0 => #[.func (Fn.func 112) #[] #[], iv 0]
  | 1 => #[.func (Fn.func 113) #[] #[], iv 8]
  | 2 => #[.func (Fn.func 114) #[] #[], iv 25]
  | 3 => #[.func (Fn.func 115) #[] #[], iv 17]
  | _ => #[.func (Fn.func 116) #[] #[], iv (-1)]
theorem kc_cv {K : Nat} (h : K ≤ 4) : curveV K = .agg (kc K) := by rcases (by omega : K = 0 ∨ K = 1 ∨ K = 2 ∨ K = 3 ∨ K = 4) with rfl | rfl | rfl | rfl | rfl <;> rfl
theorem kc_sz {K : Nat} (h : K ≤ 4) : (kc K).size = 2 := by rcases (by omega : K = 0 ∨ K = 1 ∨ K = 2 ∨ K = 3 ∨ K = 4) with rfl | rfl | rfl | rfl | rfl <;> rfl
theorem kc_i {K : Nat} (h : K ≤ 4) : (Try.prog.info? 90).map (·.size) = some (kc K).size := by rw [kc_sz h]; kernel_rfl
theorem kc_one {K : Nat} (h : K ≤ 4) : (kc K).all (·.oneCell') = true := by rcases (by omega : K = 0 ∨ K = 1 ∨ K = 2 ∨ K = 3 ∨ K = 4) with rfl | rfl | rfl | rfl | rfl <;> (simp [kc, Value.oneCell'])
theorem curves_kc (K : Nat) (h : K ≤ 4) : ∀ w, (Instr.index 91 curvesV (.int .i64 K)).run Try.prog w = .ok (.agg (kc K)) w := by
  rw [← kc_cv h]
  exact curves_at K h
/-- the way of a cursor by a step -/
def walkS (s : S) (n : Nat) (step : Int) (held : Bool) : Nat → Cur
  | 0 => begM n 0 false
  | i + 1 => moveM s n (walkS s n step held i) step held
def resF (s : S) (n : Nat) (xs : Nat → Int) (step : Int) (held : Bool) (K i : Nat) : Int := if (walkS s n step held i).done = true then 0 else sndM s n xs (walkS s n step held i) held K
def rsU (s : S) (n : Nat) (xs : Nat → Int) (step : Int) (held : Bool) (K j i : Nat) : Int := if i < j then resF s n xs step held K i else 0
theorem walkS_zero (s : S) (n : Nat) (step : Int) (held : Bool) : walkS s n step held 0 = begM n 0 false := by rw [walkS]
theorem walkS_succ (s : S) (n : Nat) (step : Int) (held : Bool) (j : Nat) : walkS s n step held (j + 1) = moveM s n (walkS s n step held j) step held := by rw [walkS]
theorem walkS_done {s : S} {n : Nat} {step : Int} {held : Bool} {j : Nat} (h : (walkS s n step held j).done = true) : ∀ d, (walkS s n step held (j + d)).done = true
  | 0 => h
  | d + 1 => by
    have ih := walkS_done h d
    show (moveM s n (walkS s n step held (j + d)) step held).done = true
    rw [move_doneM ih]
    exact ih
theorem resF_done {s : S} {n : Nat} {xs : Nat → Int} {step : Int} {held : Bool} {K j i : Nat} (h : (walkS s n step held j).done = true) (hi : j ≤ i) : resF s n xs step held K i = 0 := by
  obtain ⟨d, rfl⟩ : ∃ d, i = j + d := ⟨i - j, by omega⟩
  exact if_pos (walkS_done h d)
theorem walkS_ok {s : S} {n : Nat} {step : Int} {held : Bool} (hL : Loops s n) (hs : 0 ≤ step) : ∀ j, CurOk n (walkS s n step held j)
  | 0 => beg_ok n 0 false
  | j + 1 => moveM_ok hL (walkS_ok hL hs j) hs
theorem rsU_zero (s : S) (n : Nat) (xs : Nat → Int) (step : Int) (held : Bool) (K : Nat) : rsU s n xs step held K 0 = fun _ => 0 := by funext i; exact if_neg (by omega)
theorem rsU_step (s : S) (n : Nat) (xs : Nat → Int) (step : Int) (held : Bool) (K N j : Nat) : rw_ (fun i => if i = j then resF s n xs step held K j else rsU s n xs step held K j i) N = rw_ (rsU s n xs step held K (j + 1)) N := by
  refine rw_congr fun i hi => ?_
  unfold rsU
  by_cases e : i = j
  · subst e
    rw [if_pos rfl, if_pos (by omega)]
  · rw [if_neg e]
    by_cases h : i < j
    · rw [if_pos h, if_pos (by omega)]
    · rw [if_neg h, if_neg (by omega)]
def rsOk (s : S) (n : Nat) (xs : Nat → Int) (step N kind : Int) : Prop := 0 ≤ kind ∧ kind ≤ 4 ∧ vS s n xs = true ∧ 0 ≤ step ∧ step ≤ 268435456 ∧ 0 ≤ N ∧ N ≤ 200000
instance (s : S) (n : Nat) (xs : Nat → Int) (step N kind : Int) : Decidable (rsOk s n xs step N kind) := by unfold rsOk; infer_instance
def resN (s : S) (n : Nat) (xs : Nat → Int) (step N kind : Int) : Nat := if rsOk s n xs step N kind then N.toNat else 0
def resE (s : S) (n : Nat) (xs : Nat → Int) (step N kind : Int) : Int := if kind < 0 ∨ 4 < kind then 6 else if vS s n xs = true then (if 0 ≤ step ∧ step ≤ 268435456 ∧ 0 ≤ N ∧ N ≤ 200000 then 0 else 5) else 1
set_option maxHeartbeats 16000000 in
set_option maxRecDepth 100000 in
theorem ires_kinda (s : S) (A : Option Addr) (n c0 b o : Nat) (xs : Nat → Int) (step : Int) (N : Int) (kind : Int) (held : Bool) (h : kind < 0) (hn : n ≤ 9223372036854775807) (hc0 : n ≤ c0) (w : World) (hA : DataAt w A n b o xs) : Calls Try.prog 43 #[.agg (s.cs A n c0), iv step, iv N, iv kind, .bool held] w fun e w' => ∃ A' c' b' o', e = .returned (.tuple #[.slice A' 0 c', iv 6]) ∧ DataAt w' A' 0 b' o' (fun _ => 0) ∧ Below w.heap.size w w' := by
  have B0 : Below w.heap.size w (w.alloc (Obj.cells (s.cs A n c0) 24)) := (Below.refl _ _).alloc (Nat.le_refl _) _
  have P0 := Lib.hid (show (w.alloc (Obj.cells (s.cs A n c0) 24)).heap[w.heap.size]? = some (.cells (s.cs A n c0) 24 (0, 0)) from heap_alloc_new w _)
  have D0 := Lib.hid (hA.later B0)
  have VC := Lib.hid (show ∀ (W : World), DataAt W A n b o xs → Calls Try.prog 15 #[.agg (s.cs A n c0)] W fun e w' => e = .returned (.bool (vS s n xs)) ∧ Below W.heap.size W w' from fun W h => by have := valid_any s A n c0 b o xs hn hc0 W h; exact this)
  have d1 : decide (kind < 0) = true := decide_eq_true (by omega)
  clear hA
  go_enter Try.func43, Try.ntmps43
  go_wp2
  go_ret2
  exact ⟨none, 0, 0, 0, rfl, ⟨fun h => by omega, fun h => by omega, fun i h => by omega⟩, B0⟩
set_option maxHeartbeats 16000000 in
set_option maxRecDepth 100000 in
theorem ires_kindb (s : S) (A : Option Addr) (n c0 b o : Nat) (xs : Nat → Int) (step : Int) (N : Int) (kind : Int) (held : Bool) (h : 4 < kind) (hn : n ≤ 9223372036854775807) (hc0 : n ≤ c0) (w : World) (hA : DataAt w A n b o xs) : Calls Try.prog 43 #[.agg (s.cs A n c0), iv step, iv N, iv kind, .bool held] w fun e w' => ∃ A' c' b' o', e = .returned (.tuple #[.slice A' 0 c', iv 6]) ∧ DataAt w' A' 0 b' o' (fun _ => 0) ∧ Below w.heap.size w w' := by
  have B0 : Below w.heap.size w (w.alloc (Obj.cells (s.cs A n c0) 24)) := (Below.refl _ _).alloc (Nat.le_refl _) _
  have P0 := Lib.hid (show (w.alloc (Obj.cells (s.cs A n c0) 24)).heap[w.heap.size]? = some (.cells (s.cs A n c0) 24 (0, 0)) from heap_alloc_new w _)
  have D0 := Lib.hid (hA.later B0)
  have VC := Lib.hid (show ∀ (W : World), DataAt W A n b o xs → Calls Try.prog 15 #[.agg (s.cs A n c0)] W fun e w' => e = .returned (.bool (vS s n xs)) ∧ Below W.heap.size W w' from fun W h => by have := valid_any s A n c0 b o xs hn hc0 W h; exact this)
  have d1 : decide (kind < 0) = false := decide_eq_false (by omega)
  have d2 : decide (4 < kind) = true := decide_eq_true (by omega)
  clear hA
  go_enter Try.func43, Try.ntmps43
  go_wp2
  go_ret2
  exact ⟨none, 0, 0, 0, rfl, ⟨fun h => by omega, fun h => by omega, fun i h => by omega⟩, B0⟩
set_option maxHeartbeats 16000000 in
set_option maxRecDepth 100000 in
theorem ires_bad (s : S) (A : Option Addr) (n c0 b o : Nat) (xs : Nat → Int) (step : Int) (N : Int) (kind : Int) (held : Bool) (k0 : 0 ≤ kind) (k1 : kind ≤ 4) (hv : vS s n xs = false) (hn : n ≤ 9223372036854775807) (hc0 : n ≤ c0) (w : World) (hA : DataAt w A n b o xs) : Calls Try.prog 43 #[.agg (s.cs A n c0), iv step, iv N, iv kind, .bool held] w fun e w' => ∃ A' c' b' o', e = .returned (.tuple #[.slice A' 0 c', iv 1]) ∧ DataAt w' A' 0 b' o' (fun _ => 0) ∧ Below w.heap.size w w' := by
  have B0 : Below w.heap.size w (w.alloc (Obj.cells (s.cs A n c0) 24)) := (Below.refl _ _).alloc (Nat.le_refl _) _
  have P0 := Lib.hid (show (w.alloc (Obj.cells (s.cs A n c0) 24)).heap[w.heap.size]? = some (.cells (s.cs A n c0) 24 (0, 0)) from heap_alloc_new w _)
  have D0 := Lib.hid (hA.later B0)
  have VC := Lib.hid (show ∀ (W : World), DataAt W A n b o xs → Calls Try.prog 15 #[.agg (s.cs A n c0)] W fun e w' => e = .returned (.bool false) ∧ Below W.heap.size W w' from fun W h => by have := valid_any s A n c0 b o xs hn hc0 W h; rwa [hv] at this)
  have d1 : decide (kind < 0) = false := decide_eq_false (by omega)
  have d2 : decide (4 < kind) = false := decide_eq_false (by omega)
  clear hA hv
  go_enter Try.func43, Try.ntmps43
  go_wp2_with (first
    | (refine wpList_load_row rfl 24 (.tmp 5) rfl (w.heap.size) rfl 24 _ (0, 0) _ P0.out Try.underlying24 rfl (S.i24 _ _ _ _) ?_)
    | (go_at_call 15; (with_reducible refine (VC.out _ D0.out).mono ?_); rintro e w1 ⟨rfl, hb1⟩; have P1 := Lib.hid (bkBelow P0.out hb1); have D1 := Lib.hid (D0.out.later hb1); have B1 := bdT B0 B0.size hb1))
  go_ret2
  exact ⟨none, 0, 0, 0, rfl, ⟨fun h => by omega, fun h => by omega, fun i h => by omega⟩, B1⟩
set_option maxHeartbeats 16000000 in
set_option maxRecDepth 100000 in
theorem ires_r0 (s : S) (A : Option Addr) (n c0 b o : Nat) (xs : Nat → Int) (step : Int) (N : Int) (kind : Int) (held : Bool) (k0 : 0 ≤ kind) (k1 : kind ≤ 4) (hv : vS s n xs = true) (h1 : step < 0) (hn : n ≤ 9223372036854775807) (hc0 : n ≤ c0) (w : World) (hA : DataAt w A n b o xs) : Calls Try.prog 43 #[.agg (s.cs A n c0), iv step, iv N, iv kind, .bool held] w fun e w' => ∃ A' c' b' o', e = .returned (.tuple #[.slice A' 0 c', iv 5]) ∧ DataAt w' A' 0 b' o' (fun _ => 0) ∧ Below w.heap.size w w' := by
  have B0 : Below w.heap.size w (w.alloc (Obj.cells (s.cs A n c0) 24)) := (Below.refl _ _).alloc (Nat.le_refl _) _
  have P0 := Lib.hid (show (w.alloc (Obj.cells (s.cs A n c0) 24)).heap[w.heap.size]? = some (.cells (s.cs A n c0) 24 (0, 0)) from heap_alloc_new w _)
  have D0 := Lib.hid (hA.later B0)
  have VC := Lib.hid (show ∀ (W : World), DataAt W A n b o xs → Calls Try.prog 15 #[.agg (s.cs A n c0)] W fun e w' => e = .returned (.bool true) ∧ Below W.heap.size W w' from fun W h => by have := valid_any s A n c0 b o xs hn hc0 W h; rwa [hv] at this)
  have d1 : decide (kind < 0) = false := decide_eq_false (by omega)
  have d2 : decide (4 < kind) = false := decide_eq_false (by omega)
  have d3 : decide (step < 0) = true := decide_eq_true (by omega)
  clear hA hv
  go_enter Try.func43, Try.ntmps43
  go_wp2_with (first
    | (refine wpList_load_row rfl 24 (.tmp 5) rfl (w.heap.size) rfl 24 _ (0, 0) _ P0.out Try.underlying24 rfl (S.i24 _ _ _ _) ?_)
    | (go_at_call 15; (with_reducible refine (VC.out _ D0.out).mono ?_); rintro e w1 ⟨rfl, hb1⟩; have P1 := Lib.hid (bkBelow P0.out hb1); have D1 := Lib.hid (D0.out.later hb1); have B1 := bdT B0 B0.size hb1))
  go_ret2
  exact ⟨none, 0, 0, 0, rfl, ⟨fun h => by omega, fun h => by omega, fun i h => by omega⟩, B1⟩
set_option maxHeartbeats 16000000 in
set_option maxRecDepth 100000 in
theorem ires_r1 (s : S) (A : Option Addr) (n c0 b o : Nat) (xs : Nat → Int) (step : Int) (N : Int) (kind : Int) (held : Bool) (k0 : 0 ≤ kind) (k1 : kind ≤ 4) (hv : vS s n xs = true) (h1 : 0 ≤ step) (h2 : 268435456 < step) (hn : n ≤ 9223372036854775807) (hc0 : n ≤ c0) (w : World) (hA : DataAt w A n b o xs) : Calls Try.prog 43 #[.agg (s.cs A n c0), iv step, iv N, iv kind, .bool held] w fun e w' => ∃ A' c' b' o', e = .returned (.tuple #[.slice A' 0 c', iv 5]) ∧ DataAt w' A' 0 b' o' (fun _ => 0) ∧ Below w.heap.size w w' := by
  have B0 : Below w.heap.size w (w.alloc (Obj.cells (s.cs A n c0) 24)) := (Below.refl _ _).alloc (Nat.le_refl _) _
  have P0 := Lib.hid (show (w.alloc (Obj.cells (s.cs A n c0) 24)).heap[w.heap.size]? = some (.cells (s.cs A n c0) 24 (0, 0)) from heap_alloc_new w _)
  have D0 := Lib.hid (hA.later B0)
  have VC := Lib.hid (show ∀ (W : World), DataAt W A n b o xs → Calls Try.prog 15 #[.agg (s.cs A n c0)] W fun e w' => e = .returned (.bool true) ∧ Below W.heap.size W w' from fun W h => by have := valid_any s A n c0 b o xs hn hc0 W h; rwa [hv] at this)
  have d1 : decide (kind < 0) = false := decide_eq_false (by omega)
  have d2 : decide (4 < kind) = false := decide_eq_false (by omega)
  have d3 : decide (step < 0) = false := decide_eq_false (by omega)
  have d4 : decide (268435456 < step) = true := decide_eq_true (by omega)
  clear hA hv
  go_enter Try.func43, Try.ntmps43
  go_wp2_with (first
    | (refine wpList_load_row rfl 24 (.tmp 5) rfl (w.heap.size) rfl 24 _ (0, 0) _ P0.out Try.underlying24 rfl (S.i24 _ _ _ _) ?_)
    | (go_at_call 15; (with_reducible refine (VC.out _ D0.out).mono ?_); rintro e w1 ⟨rfl, hb1⟩; have P1 := Lib.hid (bkBelow P0.out hb1); have D1 := Lib.hid (D0.out.later hb1); have B1 := bdT B0 B0.size hb1))
  go_ret2
  exact ⟨none, 0, 0, 0, rfl, ⟨fun h => by omega, fun h => by omega, fun i h => by omega⟩, B1⟩
set_option maxHeartbeats 16000000 in
set_option maxRecDepth 100000 in
theorem ires_r2 (s : S) (A : Option Addr) (n c0 b o : Nat) (xs : Nat → Int) (step : Int) (N : Int) (kind : Int) (held : Bool) (k0 : 0 ≤ kind) (k1 : kind ≤ 4) (hv : vS s n xs = true) (h1 : 0 ≤ step) (h2 : step ≤ 268435456) (h3 : N < 0) (hn : n ≤ 9223372036854775807) (hc0 : n ≤ c0) (w : World) (hA : DataAt w A n b o xs) : Calls Try.prog 43 #[.agg (s.cs A n c0), iv step, iv N, iv kind, .bool held] w fun e w' => ∃ A' c' b' o', e = .returned (.tuple #[.slice A' 0 c', iv 5]) ∧ DataAt w' A' 0 b' o' (fun _ => 0) ∧ Below w.heap.size w w' := by
  have B0 : Below w.heap.size w (w.alloc (Obj.cells (s.cs A n c0) 24)) := (Below.refl _ _).alloc (Nat.le_refl _) _
  have P0 := Lib.hid (show (w.alloc (Obj.cells (s.cs A n c0) 24)).heap[w.heap.size]? = some (.cells (s.cs A n c0) 24 (0, 0)) from heap_alloc_new w _)
  have D0 := Lib.hid (hA.later B0)
  have VC := Lib.hid (show ∀ (W : World), DataAt W A n b o xs → Calls Try.prog 15 #[.agg (s.cs A n c0)] W fun e w' => e = .returned (.bool true) ∧ Below W.heap.size W w' from fun W h => by have := valid_any s A n c0 b o xs hn hc0 W h; rwa [hv] at this)
  have d1 : decide (kind < 0) = false := decide_eq_false (by omega)
  have d2 : decide (4 < kind) = false := decide_eq_false (by omega)
  have d3 : decide (step < 0) = false := decide_eq_false (by omega)
  have d4 : decide (268435456 < step) = false := decide_eq_false (by omega)
  have d5 : decide (N < 0) = true := decide_eq_true (by omega)
  clear hA hv
  go_enter Try.func43, Try.ntmps43
  go_wp2_with (first
    | (refine wpList_load_row rfl 24 (.tmp 5) rfl (w.heap.size) rfl 24 _ (0, 0) _ P0.out Try.underlying24 rfl (S.i24 _ _ _ _) ?_)
    | (go_at_call 15; (with_reducible refine (VC.out _ D0.out).mono ?_); rintro e w1 ⟨rfl, hb1⟩; have P1 := Lib.hid (bkBelow P0.out hb1); have D1 := Lib.hid (D0.out.later hb1); have B1 := bdT B0 B0.size hb1))
  go_ret2
  exact ⟨none, 0, 0, 0, rfl, ⟨fun h => by omega, fun h => by omega, fun i h => by omega⟩, B1⟩
set_option maxHeartbeats 16000000 in
set_option maxRecDepth 100000 in
theorem ires_r3 (s : S) (A : Option Addr) (n c0 b o : Nat) (xs : Nat → Int) (step : Int) (N : Int) (kind : Int) (held : Bool) (k0 : 0 ≤ kind) (k1 : kind ≤ 4) (hv : vS s n xs = true) (h1 : 0 ≤ step) (h2 : step ≤ 268435456) (h3 : 0 ≤ N) (h4 : 200000 < N) (hn : n ≤ 9223372036854775807) (hc0 : n ≤ c0) (w : World) (hA : DataAt w A n b o xs) : Calls Try.prog 43 #[.agg (s.cs A n c0), iv step, iv N, iv kind, .bool held] w fun e w' => ∃ A' c' b' o', e = .returned (.tuple #[.slice A' 0 c', iv 5]) ∧ DataAt w' A' 0 b' o' (fun _ => 0) ∧ Below w.heap.size w w' := by
  have B0 : Below w.heap.size w (w.alloc (Obj.cells (s.cs A n c0) 24)) := (Below.refl _ _).alloc (Nat.le_refl _) _
  have P0 := Lib.hid (show (w.alloc (Obj.cells (s.cs A n c0) 24)).heap[w.heap.size]? = some (.cells (s.cs A n c0) 24 (0, 0)) from heap_alloc_new w _)
  have D0 := Lib.hid (hA.later B0)
  have VC := Lib.hid (show ∀ (W : World), DataAt W A n b o xs → Calls Try.prog 15 #[.agg (s.cs A n c0)] W fun e w' => e = .returned (.bool true) ∧ Below W.heap.size W w' from fun W h => by have := valid_any s A n c0 b o xs hn hc0 W h; rwa [hv] at this)
  have d1 : decide (kind < 0) = false := decide_eq_false (by omega)
  have d2 : decide (4 < kind) = false := decide_eq_false (by omega)
  have d3 : decide (step < 0) = false := decide_eq_false (by omega)
  have d4 : decide (268435456 < step) = false := decide_eq_false (by omega)
  have d5 : decide (N < 0) = false := decide_eq_false (by omega)
  have d6 : decide (200000 < N) = true := decide_eq_true (by omega)
  clear hA hv
  go_enter Try.func43, Try.ntmps43
  go_wp2_with (first
    | (refine wpList_load_row rfl 24 (.tmp 5) rfl (w.heap.size) rfl 24 _ (0, 0) _ P0.out Try.underlying24 rfl (S.i24 _ _ _ _) ?_)
    | (go_at_call 15; (with_reducible refine (VC.out _ D0.out).mono ?_); rintro e w1 ⟨rfl, hb1⟩; have P1 := Lib.hid (bkBelow P0.out hb1); have D1 := Lib.hid (D0.out.later hb1); have B1 := bdT B0 B0.size hb1))
  go_ret2
  exact ⟨none, 0, 0, 0, rfl, ⟨fun h => by omega, fun h => by omega, fun i h => by omega⟩, B1⟩
set_option maxHeartbeats 16000000 in
set_option maxRecDepth 100000 in
theorem ires_ok (s : S) (A : Option Addr) (n c0 b o : Nat) (xs : Nat → Int) (step : Int) (N : Nat) (kind : Nat) (held : Bool) (k1 : kind ≤ 4) (hv : vS s n xs = true) (h1 : 0 ≤ step) (h2 : step ≤ 268435456) (h4 : N ≤ 200000) (hn : n ≤ 9223372036854775807) (hc0 : n ≤ c0) (w : World) (hA : DataAt w A n b o xs) : Calls Try.prog 43 #[.agg (s.cs A n c0), iv step, iv N, iv kind, .bool held] w fun e w' => ∃ A' c' b' o', e = .returned (.tuple #[.slice A' N c', iv 0]) ∧ DataAt w' A' N b' o' (resF s n xs step held kind) ∧ Below w.heap.size w w' := by
  obtain ⟨i0, hi, hz0, hz1, hz2⟩ := info_parts info3
  have HN := Lib.hid (show N ≤ 200000 from h4)
  have HS := Lib.hid (show 0 ≤ step ∧ step ≤ 268435456 from ⟨h1, h2⟩)
  have HK := Lib.hid k1
  have HL := Lib.hid (vS_loops hv)
  have HX := Lib.hid (vS_frames hv)
  have d1 : decide ((kind : Int) < 0) = false := decide_eq_false (by omega)
  have d2 : decide (4 < (kind : Int)) = false := decide_eq_false (by omega)
  have n2 : decide (4 < kind) = false := decide_eq_false (by omega)
  have d3 : decide (step < 0) = false := decide_eq_false (by omega)
  have d4 : decide (268435456 < step) = false := decide_eq_false (by omega)
  have d5 : decide ((N : Int) < 0) = false := decide_eq_false (by omega)
  have d6 : decide (200000 < (N : Int)) = false := decide_eq_false (by omega)
  have n6 : decide (200000 < N) = false := decide_eq_false (by omega)
  have l0 : (0 : Int) ≤ (N : Int) := by omega
  have B0 : Below w.heap.size w (w.alloc (Obj.cells (s.cs A n c0) 24)) := (Below.refl _ _).alloc (Nat.le_refl _) _
  have P0 := Lib.hid (show (w.alloc (Obj.cells (s.cs A n c0) 24)).heap[w.heap.size]? = some (.cells (s.cs A n c0) 24 (0, 0)) from heap_alloc_new w _)
  have D0 := Lib.hid (hA.later B0)
  have VC := Lib.hid (show ∀ (W : World), DataAt W A n b o xs → Calls Try.prog 15 #[.agg (s.cs A n c0)] W fun e w' => e = .returned (.bool true) ∧ Below W.heap.size W w' from fun W h => by have := valid_any s A n c0 b o xs hn hc0 W h; rwa [hv] at this)
  have HD := Lib.hid hA
  have cva := curves_kc kind k1
  have BC := Lib.hid fun (W : World) (h : W.heap[w.heap.size]? = some (.cells (s.cs A n c0) 24 (0, 0))) => begin_any s A n c0 w.heap.size 0 false (by omega) (by have := HL.out.1; omega) W h
  have AC := Lib.hid fun (j : Nat) (hd : (walkS s n step held j).done = false) (W : World) (hP : W.heap[w.heap.size]? = some (.cells (s.cs A n c0) 24 (0, 0))) (hB : Below w.heap.size w W) => (show Calls Try.prog 85 #[.agg (kc kind), .pointer (some ⟨w.heap.size, 0, none⟩), .agg (Cur.cs (walkS s n step held j)), .bool held] W fun e w' => e = .returned (iv (resF s n xs step held kind j)) ∧ Below W.heap.size W w' from by
    rw [← kc_cv k1, show resF s n xs step held kind j = sndM s n xs (walkS s n step held j) held kind from if_neg (by rw [hd]; decide)]
    exact kat_any kind k1 s A n c0 w.heap.size b o xs (walkS s n step held j) held hd (vS_loops hv) (vS_frames hv) (vS_tame hv) (walkS_ok (vS_loops hv) h1 j) W hP (HD.out.later hB))
  have MC := Lib.hid fun (j : Nat) (W : World) (hP : W.heap[w.heap.size]? = some (.cells (s.cs A n c0) 24 (0, 0))) => (show Calls Try.prog 62 #[.pointer (some ⟨w.heap.size, 0, none⟩), .agg (Cur.cs (walkS s n step held j)), iv step, .bool held] W fun e w' => e = .returned (.agg (Cur.cs (walkS s n step held (j + 1)))) ∧ Below W.heap.size W w' from by
    rw [walkS_succ]
    exact move_any s A n c0 w.heap.size (walkS s n step held j) step held (vS_loops hv) (walkS_ok (vS_loops hv) h1 j) (by omega) (by omega) W hP)
  clear hA hv h1 h2 h4 k1
  go_enter Try.func43, Try.ntmps43
  go_upto_region 8 with (first
    | (refine wpList_load_row rfl 24 (.tmp 5) rfl (w.heap.size) rfl 24 _ (0, 0) _ P0.out Try.underlying24 rfl (S.i24 _ _ _ _) ?_)
    | (go_at_call 15; (with_reducible refine (VC.out _ D0.out).mono ?_); rintro e w1 ⟨rfl, hb1⟩; have P1 := Lib.hid (bkBelow P0.out hb1); have D1 := Lib.hid (D0.out.later hb1); have B1 := bdT B0 B0.size hb1)
    | (at_make; refine wpList_make_full _ rfl _ _ 22 rfl w.heap.size 3 i0 (.int .i64 0) 1 Try.underlying22 hi hz0 hz1 .i64 .i64 _ _ N rfl rfl rfl rfl (by rw [hz2]; have := HN.out; omega) (by unfold maxLen; have := HN.out; omega) (by have := B1.size; omega) ?_; intro w2 hown hgrow))
  have hw1 := B1.size
  have P2 := Lib.hid (grBlk P1.out hgrow (by simp))
  have B2 := B1.grown hgrow hw1 (by simp)
  have O2 := Lib.hid hown
  have HR := Lib.hid (show w.heap.size < w1.heap.size from bkLt P1.out)
  clear hown hgrow hw1 d1 d2 n2 d3 d4 d5 d6 n6 D1 P1 B1
  go_upto_region 9 with (first
    | (go_at_call 84; (with_reducible refine (curves_any _).mono ?_); rintro e w3 ⟨rfl, hb3⟩; have P3 := Lib.hid (bkBelow P2.out hb3); have O3 := Lib.hid (ownBelow O2.out hb3); have B3 := bdT B2 B2.size hb3)
    | (refine wpList_store_row rfl 90 (.tmp 13) (.tmp 43) rfl (w3.heap.size) (kc kind) rfl rfl 90 _ (heap_alloc_new w3 _) (kc_i HK.out) (by rw [kc_sz HK.out]; rfl) (kc_one HK.out) ?_))
  have k4 := below_setRow ((Below.refl w3.heap.size w3).alloc (Nat.le_refl _) (Obj.cells #[.nilFunc, iv 0] 90)) (g := w3.heap.size) (Nat.le_refl _) (kc kind)
  have P4 := Lib.hid (bkBelow P3.out k4)
  have O4 := Lib.hid (ownBelow O3.out k4)
  have B4 := bdT B3 B3.size k4
  have HQ := Lib.hid (ownFarA O3.out)
  have Q4 := Lib.hid (setRow_heap _ _ _ (kc kind) _ _ (heap_alloc_new w3 (Obj.cells #[.nilFunc, iv 0] 90)))
  clear k4 P3 O3 B3 P2 O2 B2 cva
  generalize (w3.alloc (Obj.cells #[.nilFunc, iv 0] 90)).setRow w3.heap.size (kc kind) = w4 at *
  have BQ := Lib.hid (BC.out w4 P4.out)
  go_upto_region 10 with (first
    | (go_at_call 60; (with_reducible refine BQ.out.mono ?_); rintro e w5 ⟨rfl, hb5⟩; have P5 := Lib.hid (bkBelow P4.out hb5); have Q5 := Lib.hid (bkBelow Q4.out hb5); have O5 := Lib.hid (ownBelow O4.out hb5); have B5 := bdT B4 B4.size hb5)
    | (refine wpList_store_row rfl 26 (.tmp 14) (.tmp 44) rfl (w5.heap.size) (Cur.cs (begM n 0 false)) rfl rfl 26 _ (heap_alloc_new w5 (Obj.cells #[iv 0, iv 0, .bool false, .bool false] 26)) (Cur.i26 _) (Cur.sz Cur.zero _) (Cur.one _) ?_))
  have k6 := below_setRow ((Below.refl w5.heap.size w5).alloc (Nat.le_refl _) (Obj.cells #[iv 0, iv 0, .bool false, .bool false] 26)) (g := w5.heap.size) (Nat.le_refl _) (Cur.cs (begM n 0 false))
  have P6 := Lib.hid (bkBelow P5.out k6)
  have Q6 := Lib.hid (bkBelow Q5.out k6)
  have O6 := Lib.hid (ownBelow O5.out k6)
  have B6 := bdT B5 B5.size k6
  have C6 := Lib.hid (setRow_heap _ _ _ (Cur.cs (begM n 0 false)) _ _ (heap_alloc_new w5 (Obj.cells #[iv 0, iv 0, .bool false, .bool false] 26)))
  have HG := Lib.hid (show w.heap.size < w1.heap.size ∧ w1.heap.size < w5.heap.size ∧ w1.heap.size < w3.heap.size ∧ w3.heap.size < w5.heap.size from ⟨HR.out, ownFarA O5.out, HQ.out, bkLt Q5.out⟩)
  clear k6 P5 O5 B5 Q5
  generalize (w5.alloc (Obj.cells #[iv 0, iv 0, .bool false, .bool false] 26)).setRow w5.heap.size (Cur.cs (begM n 0 false)) = w6 at *
  go_upto_region 11 with (fail)
  go_loopw [47] (fun v wr => ∃ j : Nat, j ≤ N ∧ v = iv j ∧ wr.heap[w.heap.size]? = some (.cells (s.cs A n c0) 24 (0, 0)) ∧ wr.heap[w3.heap.size]? = some (.cells (kc kind) 90 (0, 0)) ∧ wr.heap[w5.heap.size]? = some (.cells (Cur.cs (walkS s n step held j)) 26 (0, 0)) ∧ wr.ownsRow w.heap.size 3 1 (.slice (some ⟨w1.heap.size, 0, none⟩) N N) N (rw_ (rsU s n xs step held kind j) N) ∧ Below w.heap.size w wr) (fun v _ => N - (intOf v).toNat)
  case atStart => exact ⟨0, by omega, rfl, P6.out, Q6.out, by rw [walkS_zero]; exact C6.out, ownN O6.out (by rw [rsU_zero, rw_zero]; first | rfl | (rw [Nat.mul_one]; exact toList_madeCells_one _ _)), B6⟩
  case round =>
    clear P6 Q6 C6 O6 B6
    obtain ⟨j, hj, rfl, hP, hQ, hC, hO, hB⟩ := hrel
    have NP := Lib.hid hP
    have NQ := Lib.hid hQ
    have NC := Lib.hid hC
    have NO := Lib.hid hO
    have c3 := (bkCell hC 3).trans (show _ = some (.bool (walkS s n step held j).done) from rfl)
    have l3 : (0 : Int) ≤ (j : Int) := by omega
    have l5 : (j : Int) ≤ 200000 := by have := HN.out; omega
    clear hP hQ hC hO
    have hend : ∀ (h : ∀ i, j ≤ i → i < N → resF s n xs step held kind i = 0), DataAt wr (some ⟨w1.heap.size, 0, none⟩) N w1.heap.size 0 (resF s n xs step held kind) := fun h => (ownData NO.out).congr fun i hi => by
      unfold rsU
      by_cases c : i < j
      · rw [if_pos c]
      · rw [if_neg c, h i (by omega) hi]
    have HE := Lib.hid hend
    clear hend
    by_cases hlt : j < N
    · have l4 : (j : Int) < (N : Int) := by omega
      cases hd : (walkS s n step held j).done
      · rw [hd] at c3
        have HDn := Lib.hid hd
        clear hd
        have TQ := Lib.hid (AC.out j HDn.out wr NP.out hB)
        go_upto_region 14 with (fail)
        clear c3
        go_upto_region 15 with (first
          | (refine wpList_load_row rfl 90 (.tmp 13) rfl (w3.heap.size) rfl 90 _ (0, 0) _ NQ.out Try.underlying90 rfl (kc_i HK.out) ?_)
          | (refine wpList_load_row rfl 26 (.tmp 14) rfl (w5.heap.size) rfl 26 _ (0, 0) _ NC.out Try.underlying26 rfl (Cur.i26 _) ?_)
          | (go_at_call 85; (with_reducible refine TQ.out.mono ?_); rintro e w7 ⟨rfl, hb7⟩; have P7 := Lib.hid (bkBelow NP.out hb7); have Q7 := Lib.hid (bkBelow NQ.out hb7); have C7 := Lib.hid (bkBelow NC.out hb7); have O7 := Lib.hid (ownBelow NO.out hb7); have B7 := bdT hB hB.size hb7; have s4 : w7.cell? ⟨w1.heap.size, j, none⟩ = some (iv (rsU s n xs step held kind j j)) := (O7.out.cellAt j (by omega)).trans (rw_at _ N j hlt); have f4 := O7.out.frozenAt j))
        have hg := HG.out
        have P8 := Lib.hid (bkFar P7.out (p := ⟨w1.heap.size, j, none⟩) (by simp; omega) (iv (resF s n xs step held kind j)))
        have Q8 := Lib.hid (bkFar Q7.out (p := ⟨w1.heap.size, j, none⟩) (by simp; omega) (iv (resF s n xs step held kind j)))
        have C8 := Lib.hid (bkFar C7.out (p := ⟨w1.heap.size, j, none⟩) (by simp; omega) (iv (resF s n xs step held kind j)))
        have O8 := Lib.hid (ownN (O7.out.stored j (iv (resF s n xs step held kind j))).1 ((rw_set _ N j _).trans (rsU_step s n xs step held kind N j)))
        have B8 := B7.setCell (p := ⟨w1.heap.size, j, none⟩) (by simp; omega) (iv (resF s n xs step held kind j))
        clear P7 C7 O7 B7 s4 f4 hb7 hg
        generalize w7.setCell ⟨w1.heap.size, j, none⟩ (iv (resF s n xs step held kind j)) = w8 at *
        have MQ := Lib.hid (MC.out j w8 P8.out)
        go_wp2_with (first
          | (refine wpList_load_row rfl 26 (.tmp 14) rfl (w5.heap.size) rfl 26 _ (0, 0) _ C8.out Try.underlying26 rfl (Cur.i26 _) ?_)
          | (go_at_call 62; (with_reducible refine MQ.out.mono ?_); rintro e w9 ⟨rfl, hb9⟩; have P9 := Lib.hid (bkBelow P8.out hb9); have Q9 := Lib.hid (bkBelow Q8.out hb9); have C9 := Lib.hid (bkBelow C8.out hb9); have O9 := Lib.hid (ownBelow O8.out hb9); have B9 := Lib.hid (bdT B8 B8.size hb9))
          | (refine wpList_store_row rfl 26 (.tmp 14) (.tmp 62) rfl (w5.heap.size) (Cur.cs (walkS s n step held (j + 1))) rfl rfl 26 _ C9.out (Cur.i26 _) (Cur.sz _ _) (Cur.one _) ?_))
        have hg := HG.out
        refine ⟨⟨j + 1, by omega, by go_num, (setRow_other w9 w5.heap.size w.heap.size (Cur.cs (walkS s n step held (j + 1))) (by omega)).trans P9.out, (setRow_other w9 w5.heap.size w3.heap.size (Cur.cs (walkS s n step held (j + 1))) (by omega)).trans Q9.out, setRow_heap _ _ _ _ _ _ C9.out, ?_, below_setRow B9.out (by omega) _⟩, by simp [intOf]; omega⟩
        exact ownFarRow O9.out (by omega) _
      · rw [hd] at c3
        have HZ := Lib.hid (HE.out fun i hi _ => resF_done hd hi)
        clear hd
        go_wp2
        go_ret2
        exact ⟨_, _, w1.heap.size, 0, rfl, HZ.out, hB⟩
    · obtain rfl : j = N := by omega
      have HZ := Lib.hid (HE.out fun i hi h => by omega)
      go_wp2
      go_ret2
      exact ⟨_, _, w1.heap.size, 0, rfl, HZ.out, hB⟩
theorem ires_any (s : S) (A : Option Addr) (n c0 b o : Nat) (xs : Nat → Int) (step N kind : Int) (held : Bool) (hn : n ≤ 9223372036854775807) (hc0 : n ≤ c0) (w : World) (hA : DataAt w A n b o xs) : Calls Try.prog 43 #[.agg (s.cs A n c0), iv step, iv N, iv kind, .bool held] w fun e w' => ∃ A' c' b' o', e = .returned (.tuple #[.slice A' (resN s n xs step N kind) c', iv (resE s n xs step N kind)]) ∧ DataAt w' A' (resN s n xs step N kind) b' o' (resF s n xs step held kind.toNat) ∧ Below w.heap.size w w' := by
  by_cases k0 : kind < 0
  · rw [show resN s n xs step N kind = 0 from if_neg (by unfold rsOk; omega), show resE s n xs step N kind = 6 from if_pos (.inl k0)]
    exact (ires_kinda s A n c0 b o xs step N kind held k0 hn hc0 w hA).mono fun e w' ⟨A', c', b', o', h1, h2, h4⟩ => ⟨A', c', b', o', h1, data0 h2, h4⟩
  by_cases k1 : 4 < kind
  · rw [show resN s n xs step N kind = 0 from if_neg (by unfold rsOk; omega), show resE s n xs step N kind = 6 from if_pos (.inr k1)]
    exact (ires_kindb s A n c0 b o xs step N kind held k1 hn hc0 w hA).mono fun e w' ⟨A', c', b', o', h1, h2, h4⟩ => ⟨A', c', b', o', h1, data0 h2, h4⟩
  have kk : ¬ (kind < 0 ∨ 4 < kind) := by omega
  cases hv : vS s n xs
  · rw [show resN s n xs step N kind = 0 from if_neg (by unfold rsOk; rw [hv]; simp), show resE s n xs step N kind = 1 from by unfold resE; rw [if_neg kk, if_neg (by rw [hv]; simp)]]
    exact (ires_bad s A n c0 b o xs step N kind held (by omega) (by omega) hv hn hc0 w hA).mono fun e w' ⟨A', c', b', o', h1, h2, h4⟩ => ⟨A', c', b', o', h1, data0 h2, h4⟩
  by_cases q0 : step < 0
  · rw [show resN s n xs step N kind = 0 from if_neg (by unfold rsOk; omega), show resE s n xs step N kind = 5 from by unfold resE; rw [if_neg kk, if_pos hv, if_neg (by omega)]]
    exact (ires_r0 s A n c0 b o xs step N kind held (by omega) (by omega) hv (by omega) hn hc0 w hA).mono fun e w' ⟨A', c', b', o', h1, h2, h4⟩ => ⟨A', c', b', o', h1, data0 h2, h4⟩
  by_cases q1 : 268435456 < step
  · rw [show resN s n xs step N kind = 0 from if_neg (by unfold rsOk; omega), show resE s n xs step N kind = 5 from by unfold resE; rw [if_neg kk, if_pos hv, if_neg (by omega)]]
    exact (ires_r1 s A n c0 b o xs step N kind held (by omega) (by omega) hv (by omega) (by omega) hn hc0 w hA).mono fun e w' ⟨A', c', b', o', h1, h2, h4⟩ => ⟨A', c', b', o', h1, data0 h2, h4⟩
  by_cases q2 : N < 0
  · rw [show resN s n xs step N kind = 0 from if_neg (by unfold rsOk; omega), show resE s n xs step N kind = 5 from by unfold resE; rw [if_neg kk, if_pos hv, if_neg (by omega)]]
    exact (ires_r2 s A n c0 b o xs step N kind held (by omega) (by omega) hv (by omega) (by omega) (by omega) hn hc0 w hA).mono fun e w' ⟨A', c', b', o', h1, h2, h4⟩ => ⟨A', c', b', o', h1, data0 h2, h4⟩
  by_cases q3 : 200000 < N
  · rw [show resN s n xs step N kind = 0 from if_neg (by unfold rsOk; omega), show resE s n xs step N kind = 5 from by unfold resE; rw [if_neg kk, if_pos hv, if_neg (by omega)]]
    exact (ires_r3 s A n c0 b o xs step N kind held (by omega) (by omega) hv (by omega) (by omega) (by omega) (by omega) hn hc0 w hA).mono fun e w' ⟨A', c', b', o', h1, h2, h4⟩ => ⟨A', c', b', o', h1, data0 h2, h4⟩
  obtain ⟨K, rfl⟩ := Int.eq_ofNat_of_zero_le (show 0 ≤ kind by omega)
  obtain ⟨M, rfl⟩ := Int.eq_ofNat_of_zero_le (show 0 ≤ N by omega)
  rw [show resN s n xs step M K = M from if_pos ⟨by omega, by omega, hv, by omega, by omega, by omega, by omega⟩, show resE s n xs step M K = 0 from by unfold resE; rw [if_neg kk, if_pos hv, if_pos (by omega)]]
  exact ires_ok s A n c0 b o xs step M K held (by omega) hv (by omega) (by omega) (by omega) hn hc0 w hA
set_option maxHeartbeats 16000000 in
set_option maxRecDepth 100000 in
theorem rres_kinda (s : S) (A : Option Addr) (n c0 b o : Nat) (xs : Nat → Int) (step : Int) (N : Int) (kind : Int) (held : Bool) (h : kind < 0) (hn : n ≤ 9223372036854775807) (hc0 : n ≤ c0) (w : World) (hA : DataAt w A n b o xs) : Calls Try.prog 44 #[.agg (s.cs A n c0), iv step, iv N, iv kind, .bool held] w fun e w' => ∃ A' c' b' o', e = .returned (.tuple #[.slice A' 0 c', iv 6]) ∧ DataAt w' A' 0 b' o' (fun _ => 0) ∧ Below w.heap.size w w' := by
  have B0 : Below w.heap.size w (w.alloc (Obj.cells (s.cs A n c0) 24)) := (Below.refl _ _).alloc (Nat.le_refl _) _
  have P0 := Lib.hid (show (w.alloc (Obj.cells (s.cs A n c0) 24)).heap[w.heap.size]? = some (.cells (s.cs A n c0) 24 (0, 0)) from heap_alloc_new w _)
  have D0 := Lib.hid (hA.later B0)
  have VC := Lib.hid (show ∀ (W : World), DataAt W A n b o xs → Calls Try.prog 25 #[.agg (s.cs A n c0)] W fun e w' => e = .returned (.bool (vS s n xs)) ∧ Below W.heap.size W w' from fun W h => by have := rvalid_any s A n c0 b o xs hn hc0 W h; exact this)
  have d1 : decide (kind < 0) = true := decide_eq_true (by omega)
  clear hA
  go_enter Try.func44, Try.ntmps44
  go_wp2
  go_ret2
  exact ⟨none, 0, 0, 0, rfl, ⟨fun h => by omega, fun h => by omega, fun i h => by omega⟩, B0⟩
set_option maxHeartbeats 16000000 in
set_option maxRecDepth 100000 in
theorem rres_kindb (s : S) (A : Option Addr) (n c0 b o : Nat) (xs : Nat → Int) (step : Int) (N : Int) (kind : Int) (held : Bool) (h : 4 < kind) (hn : n ≤ 9223372036854775807) (hc0 : n ≤ c0) (w : World) (hA : DataAt w A n b o xs) : Calls Try.prog 44 #[.agg (s.cs A n c0), iv step, iv N, iv kind, .bool held] w fun e w' => ∃ A' c' b' o', e = .returned (.tuple #[.slice A' 0 c', iv 6]) ∧ DataAt w' A' 0 b' o' (fun _ => 0) ∧ Below w.heap.size w w' := by
  have B0 : Below w.heap.size w (w.alloc (Obj.cells (s.cs A n c0) 24)) := (Below.refl _ _).alloc (Nat.le_refl _) _
  have P0 := Lib.hid (show (w.alloc (Obj.cells (s.cs A n c0) 24)).heap[w.heap.size]? = some (.cells (s.cs A n c0) 24 (0, 0)) from heap_alloc_new w _)
  have D0 := Lib.hid (hA.later B0)
  have VC := Lib.hid (show ∀ (W : World), DataAt W A n b o xs → Calls Try.prog 25 #[.agg (s.cs A n c0)] W fun e w' => e = .returned (.bool (vS s n xs)) ∧ Below W.heap.size W w' from fun W h => by have := rvalid_any s A n c0 b o xs hn hc0 W h; exact this)
  have d1 : decide (kind < 0) = false := decide_eq_false (by omega)
  have d2 : decide (4 < kind) = true := decide_eq_true (by omega)
  clear hA
  go_enter Try.func44, Try.ntmps44
  go_wp2
  go_ret2
  exact ⟨none, 0, 0, 0, rfl, ⟨fun h => by omega, fun h => by omega, fun i h => by omega⟩, B0⟩
set_option maxHeartbeats 16000000 in
set_option maxRecDepth 100000 in
theorem rres_bad (s : S) (A : Option Addr) (n c0 b o : Nat) (xs : Nat → Int) (step : Int) (N : Int) (kind : Int) (held : Bool) (k0 : 0 ≤ kind) (k1 : kind ≤ 4) (hv : vS s n xs = false) (hn : n ≤ 9223372036854775807) (hc0 : n ≤ c0) (w : World) (hA : DataAt w A n b o xs) : Calls Try.prog 44 #[.agg (s.cs A n c0), iv step, iv N, iv kind, .bool held] w fun e w' => ∃ A' c' b' o', e = .returned (.tuple #[.slice A' 0 c', iv 1]) ∧ DataAt w' A' 0 b' o' (fun _ => 0) ∧ Below w.heap.size w w' := by
  have B0 : Below w.heap.size w (w.alloc (Obj.cells (s.cs A n c0) 24)) := (Below.refl _ _).alloc (Nat.le_refl _) _
  have P0 := Lib.hid (show (w.alloc (Obj.cells (s.cs A n c0) 24)).heap[w.heap.size]? = some (.cells (s.cs A n c0) 24 (0, 0)) from heap_alloc_new w _)
  have D0 := Lib.hid (hA.later B0)
  have VC := Lib.hid (show ∀ (W : World), DataAt W A n b o xs → Calls Try.prog 25 #[.agg (s.cs A n c0)] W fun e w' => e = .returned (.bool false) ∧ Below W.heap.size W w' from fun W h => by have := rvalid_any s A n c0 b o xs hn hc0 W h; rwa [hv] at this)
  have d1 : decide (kind < 0) = false := decide_eq_false (by omega)
  have d2 : decide (4 < kind) = false := decide_eq_false (by omega)
  clear hA hv
  go_enter Try.func44, Try.ntmps44
  go_wp2_with (first
    | (refine wpList_load_row rfl 24 (.tmp 5) rfl (w.heap.size) rfl 24 _ (0, 0) _ P0.out Try.underlying24 rfl (S.i24 _ _ _ _) ?_)
    | (go_at_call 25; (with_reducible refine (VC.out _ D0.out).mono ?_); rintro e w1 ⟨rfl, hb1⟩; have P1 := Lib.hid (bkBelow P0.out hb1); have D1 := Lib.hid (D0.out.later hb1); have B1 := bdT B0 B0.size hb1))
  go_ret2
  exact ⟨none, 0, 0, 0, rfl, ⟨fun h => by omega, fun h => by omega, fun i h => by omega⟩, B1⟩
set_option maxHeartbeats 16000000 in
set_option maxRecDepth 100000 in
theorem rres_r0 (s : S) (A : Option Addr) (n c0 b o : Nat) (xs : Nat → Int) (step : Int) (N : Int) (kind : Int) (held : Bool) (k0 : 0 ≤ kind) (k1 : kind ≤ 4) (hv : vS s n xs = true) (h1 : step < 0) (hn : n ≤ 9223372036854775807) (hc0 : n ≤ c0) (w : World) (hA : DataAt w A n b o xs) : Calls Try.prog 44 #[.agg (s.cs A n c0), iv step, iv N, iv kind, .bool held] w fun e w' => ∃ A' c' b' o', e = .returned (.tuple #[.slice A' 0 c', iv 5]) ∧ DataAt w' A' 0 b' o' (fun _ => 0) ∧ Below w.heap.size w w' := by
  have B0 : Below w.heap.size w (w.alloc (Obj.cells (s.cs A n c0) 24)) := (Below.refl _ _).alloc (Nat.le_refl _) _
  have P0 := Lib.hid (show (w.alloc (Obj.cells (s.cs A n c0) 24)).heap[w.heap.size]? = some (.cells (s.cs A n c0) 24 (0, 0)) from heap_alloc_new w _)
  have D0 := Lib.hid (hA.later B0)
  have VC := Lib.hid (show ∀ (W : World), DataAt W A n b o xs → Calls Try.prog 25 #[.agg (s.cs A n c0)] W fun e w' => e = .returned (.bool true) ∧ Below W.heap.size W w' from fun W h => by have := rvalid_any s A n c0 b o xs hn hc0 W h; rwa [hv] at this)
  have d1 : decide (kind < 0) = false := decide_eq_false (by omega)
  have d2 : decide (4 < kind) = false := decide_eq_false (by omega)
  have d3 : decide (step < 0) = true := decide_eq_true (by omega)
  clear hA hv
  go_enter Try.func44, Try.ntmps44
  go_wp2_with (first
    | (refine wpList_load_row rfl 24 (.tmp 5) rfl (w.heap.size) rfl 24 _ (0, 0) _ P0.out Try.underlying24 rfl (S.i24 _ _ _ _) ?_)
    | (go_at_call 25; (with_reducible refine (VC.out _ D0.out).mono ?_); rintro e w1 ⟨rfl, hb1⟩; have P1 := Lib.hid (bkBelow P0.out hb1); have D1 := Lib.hid (D0.out.later hb1); have B1 := bdT B0 B0.size hb1))
  go_ret2
  exact ⟨none, 0, 0, 0, rfl, ⟨fun h => by omega, fun h => by omega, fun i h => by omega⟩, B1⟩
set_option maxHeartbeats 16000000 in
set_option maxRecDepth 100000 in
theorem rres_r1 (s : S) (A : Option Addr) (n c0 b o : Nat) (xs : Nat → Int) (step : Int) (N : Int) (kind : Int) (held : Bool) (k0 : 0 ≤ kind) (k1 : kind ≤ 4) (hv : vS s n xs = true) (h1 : 0 ≤ step) (h2 : 268435456 < step) (hn : n ≤ 9223372036854775807) (hc0 : n ≤ c0) (w : World) (hA : DataAt w A n b o xs) : Calls Try.prog 44 #[.agg (s.cs A n c0), iv step, iv N, iv kind, .bool held] w fun e w' => ∃ A' c' b' o', e = .returned (.tuple #[.slice A' 0 c', iv 5]) ∧ DataAt w' A' 0 b' o' (fun _ => 0) ∧ Below w.heap.size w w' := by
  have B0 : Below w.heap.size w (w.alloc (Obj.cells (s.cs A n c0) 24)) := (Below.refl _ _).alloc (Nat.le_refl _) _
  have P0 := Lib.hid (show (w.alloc (Obj.cells (s.cs A n c0) 24)).heap[w.heap.size]? = some (.cells (s.cs A n c0) 24 (0, 0)) from heap_alloc_new w _)
  have D0 := Lib.hid (hA.later B0)
  have VC := Lib.hid (show ∀ (W : World), DataAt W A n b o xs → Calls Try.prog 25 #[.agg (s.cs A n c0)] W fun e w' => e = .returned (.bool true) ∧ Below W.heap.size W w' from fun W h => by have := rvalid_any s A n c0 b o xs hn hc0 W h; rwa [hv] at this)
  have d1 : decide (kind < 0) = false := decide_eq_false (by omega)
  have d2 : decide (4 < kind) = false := decide_eq_false (by omega)
  have d3 : decide (step < 0) = false := decide_eq_false (by omega)
  have d4 : decide (268435456 < step) = true := decide_eq_true (by omega)
  clear hA hv
  go_enter Try.func44, Try.ntmps44
  go_wp2_with (first
    | (refine wpList_load_row rfl 24 (.tmp 5) rfl (w.heap.size) rfl 24 _ (0, 0) _ P0.out Try.underlying24 rfl (S.i24 _ _ _ _) ?_)
    | (go_at_call 25; (with_reducible refine (VC.out _ D0.out).mono ?_); rintro e w1 ⟨rfl, hb1⟩; have P1 := Lib.hid (bkBelow P0.out hb1); have D1 := Lib.hid (D0.out.later hb1); have B1 := bdT B0 B0.size hb1))
  go_ret2
  exact ⟨none, 0, 0, 0, rfl, ⟨fun h => by omega, fun h => by omega, fun i h => by omega⟩, B1⟩
set_option maxHeartbeats 16000000 in
set_option maxRecDepth 100000 in
theorem rres_r2 (s : S) (A : Option Addr) (n c0 b o : Nat) (xs : Nat → Int) (step : Int) (N : Int) (kind : Int) (held : Bool) (k0 : 0 ≤ kind) (k1 : kind ≤ 4) (hv : vS s n xs = true) (h1 : 0 ≤ step) (h2 : step ≤ 268435456) (h3 : N < 0) (hn : n ≤ 9223372036854775807) (hc0 : n ≤ c0) (w : World) (hA : DataAt w A n b o xs) : Calls Try.prog 44 #[.agg (s.cs A n c0), iv step, iv N, iv kind, .bool held] w fun e w' => ∃ A' c' b' o', e = .returned (.tuple #[.slice A' 0 c', iv 5]) ∧ DataAt w' A' 0 b' o' (fun _ => 0) ∧ Below w.heap.size w w' := by
  have B0 : Below w.heap.size w (w.alloc (Obj.cells (s.cs A n c0) 24)) := (Below.refl _ _).alloc (Nat.le_refl _) _
  have P0 := Lib.hid (show (w.alloc (Obj.cells (s.cs A n c0) 24)).heap[w.heap.size]? = some (.cells (s.cs A n c0) 24 (0, 0)) from heap_alloc_new w _)
  have D0 := Lib.hid (hA.later B0)
  have VC := Lib.hid (show ∀ (W : World), DataAt W A n b o xs → Calls Try.prog 25 #[.agg (s.cs A n c0)] W fun e w' => e = .returned (.bool true) ∧ Below W.heap.size W w' from fun W h => by have := rvalid_any s A n c0 b o xs hn hc0 W h; rwa [hv] at this)
  have d1 : decide (kind < 0) = false := decide_eq_false (by omega)
  have d2 : decide (4 < kind) = false := decide_eq_false (by omega)
  have d3 : decide (step < 0) = false := decide_eq_false (by omega)
  have d4 : decide (268435456 < step) = false := decide_eq_false (by omega)
  have d5 : decide (N < 0) = true := decide_eq_true (by omega)
  clear hA hv
  go_enter Try.func44, Try.ntmps44
  go_wp2_with (first
    | (refine wpList_load_row rfl 24 (.tmp 5) rfl (w.heap.size) rfl 24 _ (0, 0) _ P0.out Try.underlying24 rfl (S.i24 _ _ _ _) ?_)
    | (go_at_call 25; (with_reducible refine (VC.out _ D0.out).mono ?_); rintro e w1 ⟨rfl, hb1⟩; have P1 := Lib.hid (bkBelow P0.out hb1); have D1 := Lib.hid (D0.out.later hb1); have B1 := bdT B0 B0.size hb1))
  go_ret2
  exact ⟨none, 0, 0, 0, rfl, ⟨fun h => by omega, fun h => by omega, fun i h => by omega⟩, B1⟩
set_option maxHeartbeats 16000000 in
set_option maxRecDepth 100000 in
theorem rres_r3 (s : S) (A : Option Addr) (n c0 b o : Nat) (xs : Nat → Int) (step : Int) (N : Int) (kind : Int) (held : Bool) (k0 : 0 ≤ kind) (k1 : kind ≤ 4) (hv : vS s n xs = true) (h1 : 0 ≤ step) (h2 : step ≤ 268435456) (h3 : 0 ≤ N) (h4 : 200000 < N) (hn : n ≤ 9223372036854775807) (hc0 : n ≤ c0) (w : World) (hA : DataAt w A n b o xs) : Calls Try.prog 44 #[.agg (s.cs A n c0), iv step, iv N, iv kind, .bool held] w fun e w' => ∃ A' c' b' o', e = .returned (.tuple #[.slice A' 0 c', iv 5]) ∧ DataAt w' A' 0 b' o' (fun _ => 0) ∧ Below w.heap.size w w' := by
  have B0 : Below w.heap.size w (w.alloc (Obj.cells (s.cs A n c0) 24)) := (Below.refl _ _).alloc (Nat.le_refl _) _
  have P0 := Lib.hid (show (w.alloc (Obj.cells (s.cs A n c0) 24)).heap[w.heap.size]? = some (.cells (s.cs A n c0) 24 (0, 0)) from heap_alloc_new w _)
  have D0 := Lib.hid (hA.later B0)
  have VC := Lib.hid (show ∀ (W : World), DataAt W A n b o xs → Calls Try.prog 25 #[.agg (s.cs A n c0)] W fun e w' => e = .returned (.bool true) ∧ Below W.heap.size W w' from fun W h => by have := rvalid_any s A n c0 b o xs hn hc0 W h; rwa [hv] at this)
  have d1 : decide (kind < 0) = false := decide_eq_false (by omega)
  have d2 : decide (4 < kind) = false := decide_eq_false (by omega)
  have d3 : decide (step < 0) = false := decide_eq_false (by omega)
  have d4 : decide (268435456 < step) = false := decide_eq_false (by omega)
  have d5 : decide (N < 0) = false := decide_eq_false (by omega)
  have d6 : decide (200000 < N) = true := decide_eq_true (by omega)
  clear hA hv
  go_enter Try.func44, Try.ntmps44
  go_wp2_with (first
    | (refine wpList_load_row rfl 24 (.tmp 5) rfl (w.heap.size) rfl 24 _ (0, 0) _ P0.out Try.underlying24 rfl (S.i24 _ _ _ _) ?_)
    | (go_at_call 25; (with_reducible refine (VC.out _ D0.out).mono ?_); rintro e w1 ⟨rfl, hb1⟩; have P1 := Lib.hid (bkBelow P0.out hb1); have D1 := Lib.hid (D0.out.later hb1); have B1 := bdT B0 B0.size hb1))
  go_ret2
  exact ⟨none, 0, 0, 0, rfl, ⟨fun h => by omega, fun h => by omega, fun i h => by omega⟩, B1⟩
set_option maxHeartbeats 16000000 in
set_option maxRecDepth 100000 in
theorem rres_ok (s : S) (A : Option Addr) (n c0 b o : Nat) (xs : Nat → Int) (step : Int) (N : Nat) (kind : Nat) (held : Bool) (k1 : kind ≤ 4) (hv : vS s n xs = true) (h1 : 0 ≤ step) (h2 : step ≤ 268435456) (h4 : N ≤ 200000) (hn : n ≤ 9223372036854775807) (hc0 : n ≤ c0) (w : World) (hA : DataAt w A n b o xs) : Calls Try.prog 44 #[.agg (s.cs A n c0), iv step, iv N, iv kind, .bool held] w fun e w' => ∃ A' c' b' o', e = .returned (.tuple #[.slice A' N c', iv 0]) ∧ DataAt w' A' N b' o' (resF s n xs step held kind) ∧ Below w.heap.size w w' := by
  obtain ⟨i0, hi, hz0, hz1, hz2⟩ := info_parts info3
  have HN := Lib.hid (show N ≤ 200000 from h4)
  have HS := Lib.hid (show 0 ≤ step ∧ step ≤ 268435456 from ⟨h1, h2⟩)
  have HK := Lib.hid k1
  have HL := Lib.hid (vS_loops hv)
  have HX := Lib.hid (vS_frames hv)
  have d1 : decide ((kind : Int) < 0) = false := decide_eq_false (by omega)
  have d2 : decide (4 < (kind : Int)) = false := decide_eq_false (by omega)
  have n2 : decide (4 < kind) = false := decide_eq_false (by omega)
  have d3 : decide (step < 0) = false := decide_eq_false (by omega)
  have d4 : decide (268435456 < step) = false := decide_eq_false (by omega)
  have d5 : decide ((N : Int) < 0) = false := decide_eq_false (by omega)
  have d6 : decide (200000 < (N : Int)) = false := decide_eq_false (by omega)
  have n6 : decide (200000 < N) = false := decide_eq_false (by omega)
  have l0 : (0 : Int) ≤ (N : Int) := by omega
  have B0 : Below w.heap.size w (w.alloc (Obj.cells (s.cs A n c0) 24)) := (Below.refl _ _).alloc (Nat.le_refl _) _
  have P0 := Lib.hid (show (w.alloc (Obj.cells (s.cs A n c0) 24)).heap[w.heap.size]? = some (.cells (s.cs A n c0) 24 (0, 0)) from heap_alloc_new w _)
  have D0 := Lib.hid (hA.later B0)
  have VC := Lib.hid (show ∀ (W : World), DataAt W A n b o xs → Calls Try.prog 25 #[.agg (s.cs A n c0)] W fun e w' => e = .returned (.bool true) ∧ Below W.heap.size W w' from fun W h => by have := rvalid_any s A n c0 b o xs hn hc0 W h; rwa [hv] at this)
  have HD := Lib.hid hA
  have BC := Lib.hid fun (W : World) (h : DataAt W A n b o xs) => (show Calls Try.prog 26 #[.agg (s.cs A n c0), iv 0, .bool false] W fun e w' => e = .returned (.agg (Cur.cs (begM n 0 false))) ∧ Below W.heap.size W w' from by
    have := rbegin_any s A n c0 b o xs 0 false (by omega) hn hc0 W h
    rwa [show beginA s n xs 0 false = begM n 0 false from if_pos hv] at this)
  have AC := Lib.hid fun (j : Nat) (hd : (walkS s n step held j).done = false) (W : World) (hB : Below w.heap.size w W) => (show Calls Try.prog 86 #[.agg (s.cs A n c0), .agg (Cur.cs (walkS s n step held j)), iv kind, .bool held] W fun e w' => e = .returned (iv (resF s n xs step held kind j)) ∧ Below W.heap.size W w' from by
    rw [show resF s n xs step held kind j = sndM s n xs (walkS s n step held j) held kind from if_neg (by rw [hd]; decide)]
    exact rsound_any kind k1 s A n c0 b o xs (walkS s n step held j) held hv (okB_iff.2 (walkS_ok (vS_loops hv) h1 j)) hd hn hc0 W (HD.out.later hB))
  have MC := Lib.hid fun (j : Nat) (W : World) (hB : Below w.heap.size w W) => (show Calls Try.prog 19 #[.agg (s.cs A n c0), .agg (Cur.cs (walkS s n step held j)), iv step, .bool held] W fun e w' => e = .returned (.tuple #[.agg (Cur.cs (walkS s n step held (j + 1))), iv 0]) ∧ Below W.heap.size W w' from by
    have := rmove_any s A n c0 b o xs (walkS s n step held j) step held hn hc0 W (HD.out.later hB)
    rwa [show moveA s n xs (walkS s n step held j) step held = (walkS s n step held (j + 1), 0) from by unfold moveA; rw [if_pos ⟨hv, okB_iff.2 (walkS_ok (vS_loops hv) h1 j)⟩, if_neg (by omega), walkS_succ]] at this)
  clear hA hv h1 h2 h4 k1
  go_enter Try.func44, Try.ntmps44
  go_upto_region 8 with (first
    | (refine wpList_load_row rfl 24 (.tmp 5) rfl (w.heap.size) rfl 24 _ (0, 0) _ P0.out Try.underlying24 rfl (S.i24 _ _ _ _) ?_)
    | (go_at_call 25; (with_reducible refine (VC.out _ D0.out).mono ?_); rintro e w1 ⟨rfl, hb1⟩; have P1 := Lib.hid (bkBelow P0.out hb1); have D1 := Lib.hid (D0.out.later hb1); have B1 := bdT B0 B0.size hb1)
    | (at_make; refine wpList_make_full _ rfl _ _ 22 rfl w.heap.size 3 i0 (.int .i64 0) 1 Try.underlying22 hi hz0 hz1 .i64 .i64 _ _ N rfl rfl rfl rfl (by rw [hz2]; have := HN.out; omega) (by unfold maxLen; have := HN.out; omega) (by have := B1.size; omega) ?_; intro w2 hown hgrow))
  have hw1 := B1.size
  have P2 := Lib.hid (grBlk P1.out hgrow (by simp))
  have B2 := B1.grown hgrow hw1 (by simp)
  have O2 := Lib.hid hown
  have HR := Lib.hid (show w.heap.size < w1.heap.size from bkLt P1.out)
  clear hown hgrow hw1 d1 d2 n2 d3 d4 d5 d6 n6 D1 P1 B1
  have O4 := O2
  have P4 := P2
  have B4 := B2
  have BQ := Lib.hid (BC.out w2 (HD.out.later B2))
  go_upto_region 9 with (first
    | (refine wpList_load_row rfl 24 (.tmp 5) rfl (w.heap.size) rfl 24 _ (0, 0) _ P2.out Try.underlying24 rfl (S.i24 _ _ _ _) ?_)
    | (go_at_call 26; (with_reducible refine BQ.out.mono ?_); rintro e w5 ⟨rfl, hb5⟩; have P5 := Lib.hid (bkBelow P4.out hb5); have O5 := Lib.hid (ownBelow O4.out hb5); have B5 := bdT B4 B4.size hb5)
    | (refine wpList_store_row rfl 26 (.tmp 13) (.tmp 41) rfl (w5.heap.size) (Cur.cs (begM n 0 false)) rfl rfl 26 _ (heap_alloc_new w5 (Obj.cells #[iv 0, iv 0, .bool false, .bool false] 26)) (Cur.i26 _) (Cur.sz Cur.zero _) (Cur.one _) ?_))
  have k6 := below_setRow ((Below.refl w5.heap.size w5).alloc (Nat.le_refl _) (Obj.cells #[iv 0, iv 0, .bool false, .bool false] 26)) (g := w5.heap.size) (Nat.le_refl _) (Cur.cs (begM n 0 false))
  have P6 := Lib.hid (bkBelow P5.out k6)
  have O6 := Lib.hid (ownBelow O5.out k6)
  have B6 := bdT B5 B5.size k6
  have C6 := Lib.hid (setRow_heap _ _ _ (Cur.cs (begM n 0 false)) _ _ (heap_alloc_new w5 (Obj.cells #[iv 0, iv 0, .bool false, .bool false] 26)))
  have HG := Lib.hid (show w.heap.size < w1.heap.size ∧ w1.heap.size < w5.heap.size from ⟨HR.out, ownFarA O5.out⟩)
  clear k6 P5 O5 B5
  generalize (w5.alloc (Obj.cells #[iv 0, iv 0, .bool false, .bool false] 26)).setRow w5.heap.size (Cur.cs (begM n 0 false)) = w6 at *
  go_upto_region 10 with (fail)
  go_loopw [44] (fun v wr => ∃ j : Nat, j ≤ N ∧ v = iv j ∧ wr.heap[w.heap.size]? = some (.cells (s.cs A n c0) 24 (0, 0)) ∧ wr.heap[w5.heap.size]? = some (.cells (Cur.cs (walkS s n step held j)) 26 (0, 0)) ∧ wr.ownsRow w.heap.size 3 1 (.slice (some ⟨w1.heap.size, 0, none⟩) N N) N (rw_ (rsU s n xs step held kind j) N) ∧ Below w.heap.size w wr) (fun v _ => N - (intOf v).toNat)
  case atStart => exact ⟨0, by omega, rfl, P6.out, by rw [walkS_zero]; exact C6.out, ownN O6.out (by rw [rsU_zero, rw_zero]; first | rfl | (rw [Nat.mul_one]; exact toList_madeCells_one _ _)), B6⟩
  case round =>
    clear P6 C6 O6 B6
    obtain ⟨j, hj, rfl, hP, hC, hO, hB⟩ := hrel
    have NP := Lib.hid hP
    have NC := Lib.hid hC
    have NO := Lib.hid hO
    have c3 := (bkCell hC 3).trans (show _ = some (.bool (walkS s n step held j).done) from rfl)
    have l3 : (0 : Int) ≤ (j : Int) := by omega
    have l5 : (j : Int) ≤ 200000 := by have := HN.out; omega
    clear hP hC hO
    have hend : ∀ (h : ∀ i, j ≤ i → i < N → resF s n xs step held kind i = 0), DataAt wr (some ⟨w1.heap.size, 0, none⟩) N w1.heap.size 0 (resF s n xs step held kind) := fun h => (ownData NO.out).congr fun i hi => by
      unfold rsU
      by_cases c : i < j
      · rw [if_pos c]
      · rw [if_neg c, h i (by omega) hi]
    have HE := Lib.hid hend
    clear hend
    by_cases hlt : j < N
    · have l4 : (j : Int) < (N : Int) := by omega
      cases hd : (walkS s n step held j).done
      · rw [hd] at c3
        have HDn := Lib.hid hd
        clear hd
        have TQ := Lib.hid (AC.out j HDn.out wr hB)
        go_upto_region 13 with (fail)
        clear c3
        go_upto_region 14 with (first
          | (refine wpList_load_row rfl 24 (.tmp 5) rfl (w.heap.size) rfl 24 _ (0, 0) _ NP.out Try.underlying24 rfl (S.i24 _ _ _ _) ?_)
          | (refine wpList_load_row rfl 26 (.tmp 13) rfl (w5.heap.size) rfl 26 _ (0, 0) _ NC.out Try.underlying26 rfl (Cur.i26 _) ?_)
          | (go_at_call 86; (with_reducible refine TQ.out.mono ?_); rintro e w7 ⟨rfl, hb7⟩; have P7 := Lib.hid (bkBelow NP.out hb7); have C7 := Lib.hid (bkBelow NC.out hb7); have O7 := Lib.hid (ownBelow NO.out hb7); have B7 := bdT hB hB.size hb7; have s4 : w7.cell? ⟨w1.heap.size, j, none⟩ = some (iv (rsU s n xs step held kind j j)) := (O7.out.cellAt j (by omega)).trans (rw_at _ N j hlt); have f4 := O7.out.frozenAt j))
        have hg := HG.out
        have P8 := Lib.hid (bkFar P7.out (p := ⟨w1.heap.size, j, none⟩) (by simp; omega) (iv (resF s n xs step held kind j)))
        have C8 := Lib.hid (bkFar C7.out (p := ⟨w1.heap.size, j, none⟩) (by simp; omega) (iv (resF s n xs step held kind j)))
        have O8 := Lib.hid (ownN (O7.out.stored j (iv (resF s n xs step held kind j))).1 ((rw_set _ N j _).trans (rsU_step s n xs step held kind N j)))
        have B8 := B7.setCell (p := ⟨w1.heap.size, j, none⟩) (by simp; omega) (iv (resF s n xs step held kind j))
        clear P7 C7 O7 B7 s4 f4 hb7 hg
        generalize w7.setCell ⟨w1.heap.size, j, none⟩ (iv (resF s n xs step held kind j)) = w8 at *
        have MQ := Lib.hid (MC.out j w8 B8)
        go_wp2_with (first
          | (refine wpList_load_row rfl 24 (.tmp 5) rfl (w.heap.size) rfl 24 _ (0, 0) _ P8.out Try.underlying24 rfl (S.i24 _ _ _ _) ?_)
          | (refine wpList_load_row rfl 26 (.tmp 13) rfl (w5.heap.size) rfl 26 _ (0, 0) _ C8.out Try.underlying26 rfl (Cur.i26 _) ?_)
          | (go_at_call 19; (with_reducible refine MQ.out.mono ?_); rintro e w9 ⟨rfl, hb9⟩; have P9 := Lib.hid (bkBelow P8.out hb9); have C9 := Lib.hid (bkBelow C8.out hb9); have O9 := Lib.hid (ownBelow O8.out hb9); have B9 := Lib.hid (bdT B8 B8.size hb9))
          | (refine wpList_store_row rfl 26 (.tmp 13) (.tmp 63) rfl (w5.heap.size) (Cur.cs (walkS s n step held (j + 1))) rfl rfl 26 _ C9.out (Cur.i26 _) (Cur.sz _ _) (Cur.one _) ?_))
        have hg := HG.out
        refine ⟨⟨j + 1, by omega, by go_num, (setRow_other w9 w5.heap.size w.heap.size (Cur.cs (walkS s n step held (j + 1))) (by omega)).trans P9.out, setRow_heap _ _ _ _ _ _ C9.out, ?_, below_setRow B9.out (by omega) _⟩, by simp [intOf]; omega⟩
        exact ownFarRow O9.out (by omega) _
      · rw [hd] at c3
        have HZ := Lib.hid (HE.out fun i hi _ => resF_done hd hi)
        clear hd
        go_wp2
        go_ret2
        exact ⟨_, _, w1.heap.size, 0, rfl, HZ.out, hB⟩
    · obtain rfl : j = N := by omega
      have HZ := Lib.hid (HE.out fun i hi h => by omega)
      go_wp2
      go_ret2
      exact ⟨_, _, w1.heap.size, 0, rfl, HZ.out, hB⟩
theorem rres_any (s : S) (A : Option Addr) (n c0 b o : Nat) (xs : Nat → Int) (step N kind : Int) (held : Bool) (hn : n ≤ 9223372036854775807) (hc0 : n ≤ c0) (w : World) (hA : DataAt w A n b o xs) : Calls Try.prog 44 #[.agg (s.cs A n c0), iv step, iv N, iv kind, .bool held] w fun e w' => ∃ A' c' b' o', e = .returned (.tuple #[.slice A' (resN s n xs step N kind) c', iv (resE s n xs step N kind)]) ∧ DataAt w' A' (resN s n xs step N kind) b' o' (resF s n xs step held kind.toNat) ∧ Below w.heap.size w w' := by
  by_cases k0 : kind < 0
  · rw [show resN s n xs step N kind = 0 from if_neg (by unfold rsOk; omega), show resE s n xs step N kind = 6 from if_pos (.inl k0)]
    exact (rres_kinda s A n c0 b o xs step N kind held k0 hn hc0 w hA).mono fun e w' ⟨A', c', b', o', h1, h2, h4⟩ => ⟨A', c', b', o', h1, data0 h2, h4⟩
  by_cases k1 : 4 < kind
  · rw [show resN s n xs step N kind = 0 from if_neg (by unfold rsOk; omega), show resE s n xs step N kind = 6 from if_pos (.inr k1)]
    exact (rres_kindb s A n c0 b o xs step N kind held k1 hn hc0 w hA).mono fun e w' ⟨A', c', b', o', h1, h2, h4⟩ => ⟨A', c', b', o', h1, data0 h2, h4⟩
  have kk : ¬ (kind < 0 ∨ 4 < kind) := by omega
  cases hv : vS s n xs
  · rw [show resN s n xs step N kind = 0 from if_neg (by unfold rsOk; rw [hv]; simp), show resE s n xs step N kind = 1 from by unfold resE; rw [if_neg kk, if_neg (by rw [hv]; simp)]]
    exact (rres_bad s A n c0 b o xs step N kind held (by omega) (by omega) hv hn hc0 w hA).mono fun e w' ⟨A', c', b', o', h1, h2, h4⟩ => ⟨A', c', b', o', h1, data0 h2, h4⟩
  by_cases q0 : step < 0
  · rw [show resN s n xs step N kind = 0 from if_neg (by unfold rsOk; omega), show resE s n xs step N kind = 5 from by unfold resE; rw [if_neg kk, if_pos hv, if_neg (by omega)]]
    exact (rres_r0 s A n c0 b o xs step N kind held (by omega) (by omega) hv (by omega) hn hc0 w hA).mono fun e w' ⟨A', c', b', o', h1, h2, h4⟩ => ⟨A', c', b', o', h1, data0 h2, h4⟩
  by_cases q1 : 268435456 < step
  · rw [show resN s n xs step N kind = 0 from if_neg (by unfold rsOk; omega), show resE s n xs step N kind = 5 from by unfold resE; rw [if_neg kk, if_pos hv, if_neg (by omega)]]
    exact (rres_r1 s A n c0 b o xs step N kind held (by omega) (by omega) hv (by omega) (by omega) hn hc0 w hA).mono fun e w' ⟨A', c', b', o', h1, h2, h4⟩ => ⟨A', c', b', o', h1, data0 h2, h4⟩
  by_cases q2 : N < 0
  · rw [show resN s n xs step N kind = 0 from if_neg (by unfold rsOk; omega), show resE s n xs step N kind = 5 from by unfold resE; rw [if_neg kk, if_pos hv, if_neg (by omega)]]
    exact (rres_r2 s A n c0 b o xs step N kind held (by omega) (by omega) hv (by omega) (by omega) (by omega) hn hc0 w hA).mono fun e w' ⟨A', c', b', o', h1, h2, h4⟩ => ⟨A', c', b', o', h1, data0 h2, h4⟩
  by_cases q3 : 200000 < N
  · rw [show resN s n xs step N kind = 0 from if_neg (by unfold rsOk; omega), show resE s n xs step N kind = 5 from by unfold resE; rw [if_neg kk, if_pos hv, if_neg (by omega)]]
    exact (rres_r3 s A n c0 b o xs step N kind held (by omega) (by omega) hv (by omega) (by omega) (by omega) (by omega) hn hc0 w hA).mono fun e w' ⟨A', c', b', o', h1, h2, h4⟩ => ⟨A', c', b', o', h1, data0 h2, h4⟩
  obtain ⟨K, rfl⟩ := Int.eq_ofNat_of_zero_le (show 0 ≤ kind by omega)
  obtain ⟨M, rfl⟩ := Int.eq_ofNat_of_zero_le (show 0 ≤ N by omega)
  rw [show resN s n xs step M K = M from if_pos ⟨by omega, by omega, hv, by omega, by omega, by omega, by omega⟩, show resE s n xs step M K = 0 from by unfold resE; rw [if_neg kk, if_pos hv, if_pos (by omega)]]
  exact rres_ok s A n c0 b o xs step M K held (by omega) hv (by omega) (by omega) (by omega) hn hc0 w hA
end Go.Proofs.Ytnmoiolddfboiaa.SX

/- The reference's step of a cursor. -/
import Derived.Test.YtnmoiolddfboiaaSxE
namespace Go.Proofs.Ytnmoiolddfboiaa.SX
open Go.RowKit Go.Proofs.YtnmoiolddfboiaaW.PrintLast Go.Proofs.Ytnmoiolddfboiaa.TX Go.Proofs.Ytnmoiolddfboiaa.Cu
set_option linter.unusedVariables false
set_option linter.unusedSimpArgs false
set_option maxHeartbeats 4000000 in
set_option maxRecDepth 100000 in
theorem ring_any (s : S) (A : Option Addr) (n c0 : Nat) (held : Bool) (w : World) : Calls Try.prog 67 #[.agg (s.cs A n c0), .bool held] w fun e w' => e = .returned (.tuple #[iv (rgS s held).1, iv (rgS s held).2.1, iv (rgS s held).2.2]) ∧ Below w.heap.size w w' := by
  have y0 : (s.cs A n c0)[0]? = some (.string s.nm) := rfl
  have y1 : (s.cs A n c0)[1]? = some (.slice A n c0) := rfl
  have y2 : (s.cs A n c0)[2]? = some (iv s.a2) := rfl
  have y3 : (s.cs A n c0)[3]? = some (iv s.a3) := rfl
  have y4 : (s.cs A n c0)[4]? = some (iv s.a4) := rfl
  have y5 : (s.cs A n c0)[5]? = some (iv s.a5) := rfl
  have y6 : (s.cs A n c0)[6]? = some (iv s.a6) := rfl
  have y7 : (s.cs A n c0)[7]? = some (iv s.a7) := rfl
  have y8 : (s.cs A n c0)[8]? = some (iv s.a8) := rfl
  have y9 : (s.cs A n c0)[9]? = some (iv s.a9) := rfl
  have y10 : (s.cs A n c0)[10]? = some (iv s.a10) := rfl
  have y11 : (s.cs A n c0)[11]? = some (iv s.a11) := rfl
  have y12 : (s.cs A n c0)[12]? = some (iv s.a12) := rfl
  cases held
  · rw [show rgS s false = (s.a7, s.a8, s.a9) from by unfold rgS rgk; rw [if_neg (by decide)]]
    (go_enter Try.func67, Try.ntmps67; go_wp2; go_quiet (fail); go_wp2; go_ret3; exact ⟨rfl, by first | exact (Below.refl _ _).alloc (Nat.le_refl _) _ | exact bdN ((Below.refl _ _).alloc (Nat.le_refl _) _) _⟩)
  · by_cases hz : s.a10 = 0
    · rw [show rgS s true = (s.a7, s.a8, s.a9) from by unfold rgS rgk; rw [if_pos rfl, if_pos hz]]
      have e0 : (s.a10 != 0) = false := by simp [hz]
      clear hz
      (go_enter Try.func67, Try.ntmps67; go_wp2; go_quiet (fail); go_wp2; go_ret3; exact ⟨rfl, by first | exact (Below.refl _ _).alloc (Nat.le_refl _) _ | exact bdN ((Below.refl _ _).alloc (Nat.le_refl _) _) _⟩)
    · rw [show rgS s true = (s.a10, s.a11, s.a12) from by unfold rgS rgk; rw [if_pos rfl, if_neg hz]]
      have e0 : (s.a10 != 0) = true := by simp [hz]
      clear hz
      (go_enter Try.func67, Try.ntmps67; go_wp2; go_quiet (fail); go_wp2; go_ret3; exact ⟨rfl, by first | exact (Below.refl _ _).alloc (Nat.le_refl _) _ | exact bdN ((Below.refl _ _).alloc (Nat.le_refl _) _) _⟩)
set_option maxHeartbeats 4000000 in
set_option maxRecDepth 100000 in
theorem at_any (x : Int) (b : Bool) (h0 : 0 ≤ x) (h1 : x ≤ 1000000000000) (w : World) : Calls Try.prog 72 #[iv x, .bool b] w fun e w' => e = .returned (.agg (Cur.cs (stand (x, b, true)))) ∧ Below w.heap.size w w' := by
  have e : stand (x, b, true) = ⟨x / 65536, x % 65536, b, false⟩ := rfl
  rw [e]
  clear e
  have y1 : 0 ≤ x / 65536 := by omega
  have y2 : x / 65536 ≤ 1000000000000 := by omega
  go_enter Try.func72, Try.ntmps72
  go_wp2
  exact bodyPost_ret (results_cell_row rfl _ _ (w.heap.size) 26 _ (0, 0) _ rfl (heap_alloc_new _ _) Try.underlying26 rfl (by kernel_rfl)) rfl ⟨rfl, (Below.refl _ _).alloc (Nat.le_refl _) _⟩
set_option maxHeartbeats 4000000 in
set_option maxRecDepth 100000 in
theorem over_any (w : World) : Calls Try.prog 71 #[] w fun e w' => e = .returned (.agg (Cur.cs Cur.over)) ∧ Below w.heap.size w w' := by
  go_enter Try.func71, Try.ntmps71
  go_wp2
  exact bodyPost_ret (results_cell_row rfl _ _ (w.heap.size) 26 _ (0, 0) _ rfl (heap_alloc_new _ _) Try.underlying26 rfl (by kernel_rfl)) rfl ⟨rfl, (Below.refl _ _).alloc (Nat.le_refl _) _⟩
set_option maxHeartbeats 4000000 in
set_option maxRecDepth 100000 in
theorem rfloor_any (a b : Int) (h0 : -1000000000000000 ≤ a) (h1 : a ≤ 1000000000000000) (hb : 0 < b) (hb2 : b ≤ 1000000000000000) (w : World) : Calls Try.prog 82 #[iv a, iv b] w fun e w' => e = .returned (iv (a / b)) ∧ w = w' := by
  have hq := tdiv_rem (a := a) hb
  have q2 : -1000000000000000 ≤ a.tdiv b ∧ a.tdiv b ≤ 1000000000000000 := by
    rcases Int.lt_or_le a 0 with ha | ha
    · obtain ⟨m, rfl⟩ : ∃ m, a = -m := ⟨-a, by omega⟩
      rw [Int.neg_tdiv, Int.tdiv_eq_ediv_of_nonneg (by omega)]
      have q0 : 0 ≤ m / b := Int.ediv_nonneg (by omega) (by omega)
      have q1 : m / b ≤ m := Int.ediv_le_self _ (by omega)
      omega
    · rw [Int.tdiv_eq_ediv_of_nonneg ha]
      have q0 : 0 ≤ a / b := Int.ediv_nonneg (by omega) (by omega)
      have q1 : a / b ≤ a := Int.ediv_le_self _ (by omega)
      omega
  have wq : wrap64 (a.tdiv b) = a.tdiv b := by unfold wrap64; omega
  have n0 : ¬ (b = 0) := by omega
  by_cases hr : a.tmod b < 0
  · rw [if_pos hr] at hq
    rw [← hq]
    clear hq
    go_enter Try.func82, Try.ntmps82
    go_wp2
    go_ret
    exact ⟨rfl, rfl⟩
  · rw [if_neg hr] at hq
    rw [← hq]
    clear hq
    go_enter Try.func82, Try.ntmps82
    go_wp2
    go_ret
    exact ⟨rfl, rfl⟩
set_option maxHeartbeats 4000000 in
set_option maxRecDepth 100000 in
theorem rmod_any (a b : Int) (h0 : -1000000000000000 ≤ a) (h1 : a ≤ 1000000000000000) (hb : 0 < b) (hb2 : b ≤ 1000000000000000) (w : World) : Calls Try.prog 108 #[iv a, iv b] w fun e w' => e = .returned (iv (a % b)) ∧ w = w' := by
  have FQ := Lib.hid fun W => rfloor_any a b h0 h1 hb hb2 W
  have q1 := Int.mul_ediv_add_emod a b
  have q2 := Int.emod_nonneg a (show b ≠ 0 by omega)
  have q3 := Int.emod_lt_of_pos a hb
  obtain ⟨d, hd⟩ : ∃ d, a / b = d := ⟨_, rfl⟩
  obtain ⟨r, hr⟩ : ∃ r, a % b = r := ⟨_, rfl⟩
  rw [hd, hr] at q1
  rw [hr] at q2 q3 ⊢
  rw [hd] at FQ
  obtain ⟨m, hm⟩ : ∃ m, b * d = m := ⟨_, rfl⟩
  rw [hm] at q1
  have f1 : wrap64 (b * d) = m := by rw [hm]; exact wrap_in (by omega) (by omega)
  have f2 : wrap64 (a - m) = r := by rw [wrap_in (by omega) (by omega)]; omega
  clear hd hr hm
  clear q1 q2 q3
  go_enter Try.func108, Try.ntmps108
  go_wp2_with (go_at_call 82; (with_reducible refine (FQ.out _).mono ?_); rintro e w1 ⟨rfl, rfl⟩)
  go_ret
  exact ⟨congrArg (fun x => Ending.returned (iv x)) f2, rfl⟩
set_option maxHeartbeats 4000000 in
set_option maxRecDepth 100000 in
theorem turn_0 (S W u : Int) (hS : 0 ≤ S) (hS1 : S ≤ 100000000000) (hW : 0 < W) (hW1 : W ≤ 100000000000) (hu : -100000000000 ≤ u) (hu1 : u ≤ 100000000000) (c : u % (2 * W) < W) (w : World) : Calls Try.prog 109 #[iv S, iv W, iv u] w fun e w' => e = .returned (.agg (Cur.cs (stand (S + u % (2 * W), false, true)))) ∧ Below w.heap.size w w' := by
  have MQ := Lib.hid fun W' => rmod_any u (2 * W) (by omega) (by omega) (by omega) (by omega) W'
  have q2 := Int.emod_nonneg u (show 2 * W ≠ 0 by omega)
  have q3 := Int.emod_lt_of_pos u (show 0 < 2 * W by omega)
  obtain ⟨v, hv⟩ : ∃ v, u % (2 * W) = v := ⟨_, rfl⟩
  rw [hv] at q2 q3 c MQ ⊢
  have d1 : decide (v < W) = true := decide_eq_true c
  have AQ := Lib.hid fun W' => at_any (S + v) false (by omega) (by omega) W'
  have H0 := Lib.hid (heap_alloc_new w (Obj.cells #[iv 0, iv 0, .bool false, .bool false] 26))
  have fx : wrap64 (S + v) = S + v := wrap_in (by omega) (by omega)
  clear hv c
  go_enter Try.func109, Try.ntmps109
  go_wp2_with (first
    | (go_at_call 108; (with_reducible refine (MQ.out _).mono ?_); rintro e w1 ⟨rfl, rfl⟩)
    | (go_at_call 72; (with_reducible refine (AQ.out _).mono ?_); rintro e w2 ⟨rfl, hb2⟩; have H2 := Lib.hid (bkBelow H0.out hb2); have B2 := bdT ((Below.refl _ _).alloc (Nat.le_refl _) _) (Nat.le_of_lt (by simp)) hb2)
    | (refine wpList_store_row rfl 26 (.tmp 6) (.tmp 17) rfl (w.heap.size) (Cur.cs (stand (S + v, false, true))) rfl rfl 26 _ H2.out (Cur.i26 _) (Cur.sz Cur.zero _) (Cur.one _) ?_))
  refine bodyPost_ret (results_cell_row rfl _ _ (w.heap.size) 26 _ (0, 0) _ rfl (setRow_heap _ _ _ _ _ _ H2.out) Try.underlying26 rfl (Cur.i26 _)) rfl ⟨rfl, below_setRow B2 (Nat.le_refl _) _⟩
set_option maxHeartbeats 4000000 in
set_option maxRecDepth 100000 in
theorem turn_1 (S W u : Int) (hS : 0 ≤ S) (hS1 : S ≤ 100000000000) (hW : 0 < W) (hW1 : W ≤ 100000000000) (hu : -100000000000 ≤ u) (hu1 : u ≤ 100000000000) (c : ¬ u % (2 * W) < W) (w : World) : Calls Try.prog 109 #[iv S, iv W, iv u] w fun e w' => e = .returned (.agg (Cur.cs (stand (S + 2 * W - 1 - u % (2 * W), true, true)))) ∧ Below w.heap.size w w' := by
  have MQ := Lib.hid fun W' => rmod_any u (2 * W) (by omega) (by omega) (by omega) (by omega) W'
  have q2 := Int.emod_nonneg u (show 2 * W ≠ 0 by omega)
  have q3 := Int.emod_lt_of_pos u (show 0 < 2 * W by omega)
  obtain ⟨v, hv⟩ : ∃ v, u % (2 * W) = v := ⟨_, rfl⟩
  rw [hv] at q2 q3 c MQ ⊢
  have d1 : decide (v < W) = false := decide_eq_false c
  have AQ := Lib.hid fun W' => at_any (S + 2 * W - 1 - v) true (by omega) (by omega) W'
  have H0 := Lib.hid (heap_alloc_new w (Obj.cells #[iv 0, iv 0, .bool false, .bool false] 26))
  have fx : wrap64 (S + v) = S + v := wrap_in (by omega) (by omega)
  clear hv c
  go_enter Try.func109, Try.ntmps109
  go_wp2_with (first
    | (go_at_call 108; (with_reducible refine (MQ.out _).mono ?_); rintro e w1 ⟨rfl, rfl⟩)
    | (go_at_call 72; (with_reducible refine (AQ.out _).mono ?_); rintro e w2 ⟨rfl, hb2⟩; have H2 := Lib.hid (bkBelow H0.out hb2); have B2 := bdT ((Below.refl _ _).alloc (Nat.le_refl _) _) (Nat.le_of_lt (by simp)) hb2)
    | (refine wpList_store_row rfl 26 (.tmp 6) (.tmp 25) rfl (w.heap.size) (Cur.cs (stand (S + 2 * W - 1 - v, true, true))) rfl rfl 26 _ H2.out (Cur.i26 _) (Cur.sz Cur.zero _) (Cur.one _) ?_))
  refine bodyPost_ret (results_cell_row rfl _ _ (w.heap.size) 26 _ (0, 0) _ rfl (setRow_heap _ _ _ _ _ _ H2.out) Try.underlying26 rfl (Cur.i26 _)) rfl ⟨rfl, below_setRow B2 (Nat.le_refl _) _⟩
theorem turn_any (S W u : Int) (hS : 0 ≤ S) (hS1 : S ≤ 100000000000) (hW : 0 < W) (hW1 : W ≤ 100000000000) (hu : -100000000000 ≤ u) (hu1 : u ≤ 100000000000) (w : World) : Calls Try.prog 109 #[iv S, iv W, iv u] w fun e w' => e = .returned (.agg (Cur.cs (stand (if u % (2 * W) < W then (S + u % (2 * W), false, true) else (S + 2 * W - 1 - u % (2 * W), true, true))))) ∧ Below w.heap.size w w' := by
  by_cases c : u % (2 * W) < W
  · rw [if_pos c]
    exact turn_0 S W u hS hS1 hW hW1 hu hu1 c w
  · rw [if_neg c]
    exact turn_1 S W u hS hS1 hW hW1 hu hu1 c w
set_option maxHeartbeats 8000000 in
set_option maxRecDepth 100000 in
theorem gone_b0o (s : S) (A : Option Addr) (n c0 : Nat) (ps fr step x sa E a b : Int) (held : Bool) (hr : rgS s held = (0, a, b)) (hn : n ≤ 4096) (f1 : wrap64 (wrap64 (ps * 65536) + fr) = x) (f4 : wrap64 (a * 65536) = sa) (f5 : wrap64 (b * 65536) = E) (x0 : 0 ≤ x) (x1 : x ≤ 300000000) (s0 : 0 ≤ step) (s1 : step ≤ 300000000) (S0 : 0 ≤ sa) (S1 : sa ≤ 300000000) (E1 : sa ≤ E) (E2 : E ≤ 300000000) (hz : x < step) (w : World) : Calls Try.prog 64 #[.agg (s.cs A n c0), .agg (Cur.cs ⟨ps, fr, true, false⟩), iv step, .bool held] w fun e w' => e = .returned (.agg (Cur.cs Cur.over)) ∧ Below w.heap.size w w' := by
  have B0 : Below w.heap.size w (((w.alloc (Obj.cells (s.cs A n c0) 24)).alloc (Obj.cells #[iv ps, iv fr, .bool true, .bool false] 26)).alloc (Obj.cells #[iv 0, iv 0, .bool false, .bool false] 26)) := (((Below.refl _ _).alloc (Nat.le_refl _) _).alloc (by simp) _).alloc (by simp; omega) _
  have P0 := Lib.hid (show (((w.alloc (Obj.cells (s.cs A n c0) 24)).alloc (Obj.cells #[iv ps, iv fr, .bool true, .bool false] 26)).alloc (Obj.cells #[iv 0, iv 0, .bool false, .bool false] 26)).heap[w.heap.size]? = some (.cells (s.cs A n c0) 24 (0, 0)) from al3A w _ _ _)
  have C0 := Lib.hid (show (((w.alloc (Obj.cells (s.cs A n c0) 24)).alloc (Obj.cells #[iv ps, iv fr, .bool true, .bool false] 26)).alloc (Obj.cells #[iv 0, iv 0, .bool false, .bool false] 26)).heap[w.heap.size + 1]? = some (.cells (Cur.cs ⟨ps, fr, true, false⟩) 26 (0, 0)) from al3B w _ _ _)
  have Z0 := Lib.hid (show (((w.alloc (Obj.cells (s.cs A n c0) 24)).alloc (Obj.cells #[iv ps, iv fr, .bool true, .bool false] 26)).alloc (Obj.cells #[iv 0, iv 0, .bool false, .bool false] 26)).heap[w.heap.size + 1 + 1]? = some (.cells (Cur.cs Cur.zero) 26 (0, 0)) from al3C w _ _ _)
  have RQ := Lib.hid (show ∀ W' : World, Calls Try.prog 67 #[.agg (s.cs A n c0), .bool held] W' fun e w' => e = .returned (.tuple #[iv 0, iv a, iv b]) ∧ Below W'.heap.size W' w' from fun W' => by have := ring_any s A n c0 held W'; rwa [hr] at this)
  have d3 : decide (x < step) = true := decide_eq_true (by omega)
  have d3b : decide (x - step < 0) = true := decide_eq_true (by omega)
  have OQ := Lib.hid fun W' => over_any W'
  clear hr
  unfold Cur.cs
  go_enter Try.func64, Try.ntmps64
  go_upto_region 4 with (first
    | (refine wpList_load_row rfl 24 (.tmp 4) rfl (w.heap.size) rfl 24 _ (0, 0) _ P0.out Try.underlying24 rfl (S.i24 _ _ _ _) ?_)
    | (go_at_call 67; (with_reducible refine (RQ.out _).mono ?_); rintro e w1 ⟨rfl, hb1⟩; have P1 := Lib.hid (bkBelow P0.out hb1); have C1 := Lib.hid (bkBelow C0.out hb1); have Z1 := Lib.hid (bkBelow Z0.out hb1); have B1 := bdT B0 B0.size hb1; clear P0 C0 Z0))
  have k0 := (bkCell C1.out 0).trans (show _ = some (iv ps) from rfl)
  have k1 := (bkCell C1.out 1).trans (show _ = some (iv fr) from rfl)
  have k2 := (bkCell C1.out 2).trans (show _ = some (.bool true) from rfl)
  have p1 := (bkCell P1.out 1).trans (show _ = some (.slice A n c0) from rfl)
  go_wp2_with (first
    | (go_at_call 71; (with_reducible refine (OQ.out _).mono ?_); rintro e w2 ⟨rfl, hb2⟩; have P2 := Lib.hid (bkBelow P1.out hb2); have C2 := Lib.hid (bkBelow C1.out hb2); have Z2 := Lib.hid (bkBelow Z1.out hb2); have B2 := bdT B1 B1.size hb2; clear P1 C1 Z1)
    | (refine wpList_store_row rfl 26 (.tmp 8) (.tmp 95) rfl (w.heap.size + 1 + 1) (Cur.cs Cur.over) rfl rfl 26 _ Z2.out (Cur.i26 _) (Cur.sz _ _) (Cur.one _) ?_))
  refine bodyPost_ret (results_cell_row rfl _ _ (w.heap.size + 1 + 1) 26 _ (0, 0) _ rfl (setRow_heap _ _ _ _ _ _ Z2.out) Try.underlying26 rfl (Cur.i26 _)) rfl ⟨rfl, below_setRow B2 (by omega) _⟩
set_option maxHeartbeats 8000000 in
set_option maxRecDepth 100000 in
theorem gone_b0s (s : S) (A : Option Addr) (n c0 : Nat) (ps fr step x sa E a b : Int) (held : Bool) (hr : rgS s held = (0, a, b)) (hn : n ≤ 4096) (f1 : wrap64 (wrap64 (ps * 65536) + fr) = x) (f4 : wrap64 (a * 65536) = sa) (f5 : wrap64 (b * 65536) = E) (x0 : 0 ≤ x) (x1 : x ≤ 300000000) (s0 : 0 ≤ step) (s1 : step ≤ 300000000) (S0 : 0 ≤ sa) (S1 : sa ≤ 300000000) (E1 : sa ≤ E) (E2 : E ≤ 300000000) (hz : step ≤ x) (w : World) : Calls Try.prog 64 #[.agg (s.cs A n c0), .agg (Cur.cs ⟨ps, fr, true, false⟩), iv step, .bool held] w fun e w' => e = .returned (.agg (Cur.cs (stand (x - step, true, true)))) ∧ Below w.heap.size w w' := by
  have B0 : Below w.heap.size w (((w.alloc (Obj.cells (s.cs A n c0) 24)).alloc (Obj.cells #[iv ps, iv fr, .bool true, .bool false] 26)).alloc (Obj.cells #[iv 0, iv 0, .bool false, .bool false] 26)) := (((Below.refl _ _).alloc (Nat.le_refl _) _).alloc (by simp) _).alloc (by simp; omega) _
  have P0 := Lib.hid (show (((w.alloc (Obj.cells (s.cs A n c0) 24)).alloc (Obj.cells #[iv ps, iv fr, .bool true, .bool false] 26)).alloc (Obj.cells #[iv 0, iv 0, .bool false, .bool false] 26)).heap[w.heap.size]? = some (.cells (s.cs A n c0) 24 (0, 0)) from al3A w _ _ _)
  have C0 := Lib.hid (show (((w.alloc (Obj.cells (s.cs A n c0) 24)).alloc (Obj.cells #[iv ps, iv fr, .bool true, .bool false] 26)).alloc (Obj.cells #[iv 0, iv 0, .bool false, .bool false] 26)).heap[w.heap.size + 1]? = some (.cells (Cur.cs ⟨ps, fr, true, false⟩) 26 (0, 0)) from al3B w _ _ _)
  have Z0 := Lib.hid (show (((w.alloc (Obj.cells (s.cs A n c0) 24)).alloc (Obj.cells #[iv ps, iv fr, .bool true, .bool false] 26)).alloc (Obj.cells #[iv 0, iv 0, .bool false, .bool false] 26)).heap[w.heap.size + 1 + 1]? = some (.cells (Cur.cs Cur.zero) 26 (0, 0)) from al3C w _ _ _)
  have RQ := Lib.hid (show ∀ W' : World, Calls Try.prog 67 #[.agg (s.cs A n c0), .bool held] W' fun e w' => e = .returned (.tuple #[iv 0, iv a, iv b]) ∧ Below W'.heap.size W' w' from fun W' => by have := ring_any s A n c0 held W'; rwa [hr] at this)
  have d3 : decide (x < step) = false := decide_eq_false (by omega)
  have d3b : decide (x - step < 0) = false := decide_eq_false (by omega)
  have AQ := Lib.hid fun W' => at_any (x - step) true (by omega) (by omega) W'
  clear hr
  unfold Cur.cs
  go_enter Try.func64, Try.ntmps64
  go_upto_region 4 with (first
    | (refine wpList_load_row rfl 24 (.tmp 4) rfl (w.heap.size) rfl 24 _ (0, 0) _ P0.out Try.underlying24 rfl (S.i24 _ _ _ _) ?_)
    | (go_at_call 67; (with_reducible refine (RQ.out _).mono ?_); rintro e w1 ⟨rfl, hb1⟩; have P1 := Lib.hid (bkBelow P0.out hb1); have C1 := Lib.hid (bkBelow C0.out hb1); have Z1 := Lib.hid (bkBelow Z0.out hb1); have B1 := bdT B0 B0.size hb1; clear P0 C0 Z0))
  have k0 := (bkCell C1.out 0).trans (show _ = some (iv ps) from rfl)
  have k1 := (bkCell C1.out 1).trans (show _ = some (iv fr) from rfl)
  have k2 := (bkCell C1.out 2).trans (show _ = some (.bool true) from rfl)
  have p1 := (bkCell P1.out 1).trans (show _ = some (.slice A n c0) from rfl)
  go_wp2_with (first
    | (go_at_call 72; (with_reducible refine (AQ.out _).mono ?_); rintro e w2 ⟨rfl, hb2⟩; have P2 := Lib.hid (bkBelow P1.out hb2); have C2 := Lib.hid (bkBelow C1.out hb2); have Z2 := Lib.hid (bkBelow Z1.out hb2); have B2 := bdT B1 B1.size hb2; clear P1 C1 Z1)
    | (refine wpList_store_row rfl 26 (.tmp 8) (.tmp 97) rfl (w.heap.size + 1 + 1) (Cur.cs (stand (x - step, true, true))) rfl rfl 26 _ Z2.out (Cur.i26 _) (Cur.sz _ _) (Cur.one _) ?_))
  refine bodyPost_ret (results_cell_row rfl _ _ (w.heap.size + 1 + 1) 26 _ (0, 0) _ rfl (setRow_heap _ _ _ _ _ _ Z2.out) Try.underlying26 rfl (Cur.i26 _)) rfl ⟨rfl, below_setRow B2 (by omega) _⟩
set_option maxHeartbeats 8000000 in
set_option maxRecDepth 100000 in
theorem gone_b1ao (s : S) (A : Option Addr) (n c0 : Nat) (ps fr step x sa E a b : Int) (held : Bool) (hr : rgS s held = (1, a, b)) (hn : n ≤ 4096) (f1 : wrap64 (wrap64 (ps * 65536) + fr) = x) (f4 : wrap64 (a * 65536) = sa) (f5 : wrap64 (b * 65536) = E) (x0 : 0 ≤ x) (x1 : x ≤ 300000000) (s0 : 0 ≤ step) (s1 : step ≤ 300000000) (S0 : 0 ≤ sa) (S1 : sa ≤ 300000000) (E1 : sa ≤ E) (E2 : E ≤ 300000000) (hc : x < sa) (hz : x < step) (w : World) : Calls Try.prog 64 #[.agg (s.cs A n c0), .agg (Cur.cs ⟨ps, fr, true, false⟩), iv step, .bool held] w fun e w' => e = .returned (.agg (Cur.cs Cur.over)) ∧ Below w.heap.size w w' := by
  have B0 : Below w.heap.size w (((w.alloc (Obj.cells (s.cs A n c0) 24)).alloc (Obj.cells #[iv ps, iv fr, .bool true, .bool false] 26)).alloc (Obj.cells #[iv 0, iv 0, .bool false, .bool false] 26)) := (((Below.refl _ _).alloc (Nat.le_refl _) _).alloc (by simp) _).alloc (by simp; omega) _
  have P0 := Lib.hid (show (((w.alloc (Obj.cells (s.cs A n c0) 24)).alloc (Obj.cells #[iv ps, iv fr, .bool true, .bool false] 26)).alloc (Obj.cells #[iv 0, iv 0, .bool false, .bool false] 26)).heap[w.heap.size]? = some (.cells (s.cs A n c0) 24 (0, 0)) from al3A w _ _ _)
  have C0 := Lib.hid (show (((w.alloc (Obj.cells (s.cs A n c0) 24)).alloc (Obj.cells #[iv ps, iv fr, .bool true, .bool false] 26)).alloc (Obj.cells #[iv 0, iv 0, .bool false, .bool false] 26)).heap[w.heap.size + 1]? = some (.cells (Cur.cs ⟨ps, fr, true, false⟩) 26 (0, 0)) from al3B w _ _ _)
  have Z0 := Lib.hid (show (((w.alloc (Obj.cells (s.cs A n c0) 24)).alloc (Obj.cells #[iv ps, iv fr, .bool true, .bool false] 26)).alloc (Obj.cells #[iv 0, iv 0, .bool false, .bool false] 26)).heap[w.heap.size + 1 + 1]? = some (.cells (Cur.cs Cur.zero) 26 (0, 0)) from al3C w _ _ _)
  have RQ := Lib.hid (show ∀ W' : World, Calls Try.prog 67 #[.agg (s.cs A n c0), .bool held] W' fun e w' => e = .returned (.tuple #[iv 1, iv a, iv b]) ∧ Below W'.heap.size W' w' from fun W' => by have := ring_any s A n c0 held W'; rwa [hr] at this)
  have d1 : decide (sa ≤ x) = false := decide_eq_false (by omega)
  have d3 : decide (x < step) = true := decide_eq_true (by omega)
  have d3b : decide (x - step < 0) = true := decide_eq_true (by omega)
  have OQ := Lib.hid fun W' => over_any W'
  clear hr
  unfold Cur.cs
  go_enter Try.func64, Try.ntmps64
  go_upto_region 4 with (first
    | (refine wpList_load_row rfl 24 (.tmp 4) rfl (w.heap.size) rfl 24 _ (0, 0) _ P0.out Try.underlying24 rfl (S.i24 _ _ _ _) ?_)
    | (go_at_call 67; (with_reducible refine (RQ.out _).mono ?_); rintro e w1 ⟨rfl, hb1⟩; have P1 := Lib.hid (bkBelow P0.out hb1); have C1 := Lib.hid (bkBelow C0.out hb1); have Z1 := Lib.hid (bkBelow Z0.out hb1); have B1 := bdT B0 B0.size hb1; clear P0 C0 Z0))
  have k0 := (bkCell C1.out 0).trans (show _ = some (iv ps) from rfl)
  have k1 := (bkCell C1.out 1).trans (show _ = some (iv fr) from rfl)
  have k2 := (bkCell C1.out 2).trans (show _ = some (.bool true) from rfl)
  have p1 := (bkCell P1.out 1).trans (show _ = some (.slice A n c0) from rfl)
  go_wp2_with (first
    | (go_at_call 71; (with_reducible refine (OQ.out _).mono ?_); rintro e w2 ⟨rfl, hb2⟩; have P2 := Lib.hid (bkBelow P1.out hb2); have C2 := Lib.hid (bkBelow C1.out hb2); have Z2 := Lib.hid (bkBelow Z1.out hb2); have B2 := bdT B1 B1.size hb2; clear P1 C1 Z1)
    | (refine wpList_store_row rfl 26 (.tmp 8) (.tmp 95) rfl (w.heap.size + 1 + 1) (Cur.cs Cur.over) rfl rfl 26 _ Z2.out (Cur.i26 _) (Cur.sz _ _) (Cur.one _) ?_))
  refine bodyPost_ret (results_cell_row rfl _ _ (w.heap.size + 1 + 1) 26 _ (0, 0) _ rfl (setRow_heap _ _ _ _ _ _ Z2.out) Try.underlying26 rfl (Cur.i26 _)) rfl ⟨rfl, below_setRow B2 (by omega) _⟩
set_option maxHeartbeats 8000000 in
set_option maxRecDepth 100000 in
theorem gone_b1as (s : S) (A : Option Addr) (n c0 : Nat) (ps fr step x sa E a b : Int) (held : Bool) (hr : rgS s held = (1, a, b)) (hn : n ≤ 4096) (f1 : wrap64 (wrap64 (ps * 65536) + fr) = x) (f4 : wrap64 (a * 65536) = sa) (f5 : wrap64 (b * 65536) = E) (x0 : 0 ≤ x) (x1 : x ≤ 300000000) (s0 : 0 ≤ step) (s1 : step ≤ 300000000) (S0 : 0 ≤ sa) (S1 : sa ≤ 300000000) (E1 : sa ≤ E) (E2 : E ≤ 300000000) (hc : x < sa) (hz : step ≤ x) (w : World) : Calls Try.prog 64 #[.agg (s.cs A n c0), .agg (Cur.cs ⟨ps, fr, true, false⟩), iv step, .bool held] w fun e w' => e = .returned (.agg (Cur.cs (stand (x - step, true, true)))) ∧ Below w.heap.size w w' := by
  have B0 : Below w.heap.size w (((w.alloc (Obj.cells (s.cs A n c0) 24)).alloc (Obj.cells #[iv ps, iv fr, .bool true, .bool false] 26)).alloc (Obj.cells #[iv 0, iv 0, .bool false, .bool false] 26)) := (((Below.refl _ _).alloc (Nat.le_refl _) _).alloc (by simp) _).alloc (by simp; omega) _
  have P0 := Lib.hid (show (((w.alloc (Obj.cells (s.cs A n c0) 24)).alloc (Obj.cells #[iv ps, iv fr, .bool true, .bool false] 26)).alloc (Obj.cells #[iv 0, iv 0, .bool false, .bool false] 26)).heap[w.heap.size]? = some (.cells (s.cs A n c0) 24 (0, 0)) from al3A w _ _ _)
  have C0 := Lib.hid (show (((w.alloc (Obj.cells (s.cs A n c0) 24)).alloc (Obj.cells #[iv ps, iv fr, .bool true, .bool false] 26)).alloc (Obj.cells #[iv 0, iv 0, .bool false, .bool false] 26)).heap[w.heap.size + 1]? = some (.cells (Cur.cs ⟨ps, fr, true, false⟩) 26 (0, 0)) from al3B w _ _ _)
  have Z0 := Lib.hid (show (((w.alloc (Obj.cells (s.cs A n c0) 24)).alloc (Obj.cells #[iv ps, iv fr, .bool true, .bool false] 26)).alloc (Obj.cells #[iv 0, iv 0, .bool false, .bool false] 26)).heap[w.heap.size + 1 + 1]? = some (.cells (Cur.cs Cur.zero) 26 (0, 0)) from al3C w _ _ _)
  have RQ := Lib.hid (show ∀ W' : World, Calls Try.prog 67 #[.agg (s.cs A n c0), .bool held] W' fun e w' => e = .returned (.tuple #[iv 1, iv a, iv b]) ∧ Below W'.heap.size W' w' from fun W' => by have := ring_any s A n c0 held W'; rwa [hr] at this)
  have d1 : decide (sa ≤ x) = false := decide_eq_false (by omega)
  have d3 : decide (x < step) = false := decide_eq_false (by omega)
  have d3b : decide (x - step < 0) = false := decide_eq_false (by omega)
  have AQ := Lib.hid fun W' => at_any (x - step) true (by omega) (by omega) W'
  clear hr
  unfold Cur.cs
  go_enter Try.func64, Try.ntmps64
  go_upto_region 4 with (first
    | (refine wpList_load_row rfl 24 (.tmp 4) rfl (w.heap.size) rfl 24 _ (0, 0) _ P0.out Try.underlying24 rfl (S.i24 _ _ _ _) ?_)
    | (go_at_call 67; (with_reducible refine (RQ.out _).mono ?_); rintro e w1 ⟨rfl, hb1⟩; have P1 := Lib.hid (bkBelow P0.out hb1); have C1 := Lib.hid (bkBelow C0.out hb1); have Z1 := Lib.hid (bkBelow Z0.out hb1); have B1 := bdT B0 B0.size hb1; clear P0 C0 Z0))
  have k0 := (bkCell C1.out 0).trans (show _ = some (iv ps) from rfl)
  have k1 := (bkCell C1.out 1).trans (show _ = some (iv fr) from rfl)
  have k2 := (bkCell C1.out 2).trans (show _ = some (.bool true) from rfl)
  have p1 := (bkCell P1.out 1).trans (show _ = some (.slice A n c0) from rfl)
  go_wp2_with (first
    | (go_at_call 72; (with_reducible refine (AQ.out _).mono ?_); rintro e w2 ⟨rfl, hb2⟩; have P2 := Lib.hid (bkBelow P1.out hb2); have C2 := Lib.hid (bkBelow C1.out hb2); have Z2 := Lib.hid (bkBelow Z1.out hb2); have B2 := bdT B1 B1.size hb2; clear P1 C1 Z1)
    | (refine wpList_store_row rfl 26 (.tmp 8) (.tmp 97) rfl (w.heap.size + 1 + 1) (Cur.cs (stand (x - step, true, true))) rfl rfl 26 _ Z2.out (Cur.i26 _) (Cur.sz _ _) (Cur.one _) ?_))
  refine bodyPost_ret (results_cell_row rfl _ _ (w.heap.size + 1 + 1) 26 _ (0, 0) _ rfl (setRow_heap _ _ _ _ _ _ Z2.out) Try.underlying26 rfl (Cur.i26 _)) rfl ⟨rfl, below_setRow B2 (by omega) _⟩
set_option maxHeartbeats 8000000 in
set_option maxRecDepth 100000 in
theorem gone_b1bs (s : S) (A : Option Addr) (n c0 : Nat) (ps fr step x sa E a b : Int) (held : Bool) (hr : rgS s held = (1, a, b)) (hn : n ≤ 4096) (f1 : wrap64 (wrap64 (ps * 65536) + fr) = x) (f4 : wrap64 (a * 65536) = sa) (f5 : wrap64 (b * 65536) = E) (x0 : 0 ≤ x) (x1 : x ≤ 300000000) (s0 : 0 ≤ step) (s1 : step ≤ 300000000) (S0 : 0 ≤ sa) (S1 : sa ≤ 300000000) (E1 : sa ≤ E) (E2 : E ≤ 300000000) (hc : sa ≤ x) (hc2 : sa ≤ x - step) (hz : step ≤ x) (w : World) : Calls Try.prog 64 #[.agg (s.cs A n c0), .agg (Cur.cs ⟨ps, fr, true, false⟩), iv step, .bool held] w fun e w' => e = .returned (.agg (Cur.cs (stand (x - step, true, true)))) ∧ Below w.heap.size w w' := by
  have B0 : Below w.heap.size w (((w.alloc (Obj.cells (s.cs A n c0) 24)).alloc (Obj.cells #[iv ps, iv fr, .bool true, .bool false] 26)).alloc (Obj.cells #[iv 0, iv 0, .bool false, .bool false] 26)) := (((Below.refl _ _).alloc (Nat.le_refl _) _).alloc (by simp) _).alloc (by simp; omega) _
  have P0 := Lib.hid (show (((w.alloc (Obj.cells (s.cs A n c0) 24)).alloc (Obj.cells #[iv ps, iv fr, .bool true, .bool false] 26)).alloc (Obj.cells #[iv 0, iv 0, .bool false, .bool false] 26)).heap[w.heap.size]? = some (.cells (s.cs A n c0) 24 (0, 0)) from al3A w _ _ _)
  have C0 := Lib.hid (show (((w.alloc (Obj.cells (s.cs A n c0) 24)).alloc (Obj.cells #[iv ps, iv fr, .bool true, .bool false] 26)).alloc (Obj.cells #[iv 0, iv 0, .bool false, .bool false] 26)).heap[w.heap.size + 1]? = some (.cells (Cur.cs ⟨ps, fr, true, false⟩) 26 (0, 0)) from al3B w _ _ _)
  have Z0 := Lib.hid (show (((w.alloc (Obj.cells (s.cs A n c0) 24)).alloc (Obj.cells #[iv ps, iv fr, .bool true, .bool false] 26)).alloc (Obj.cells #[iv 0, iv 0, .bool false, .bool false] 26)).heap[w.heap.size + 1 + 1]? = some (.cells (Cur.cs Cur.zero) 26 (0, 0)) from al3C w _ _ _)
  have RQ := Lib.hid (show ∀ W' : World, Calls Try.prog 67 #[.agg (s.cs A n c0), .bool held] W' fun e w' => e = .returned (.tuple #[iv 1, iv a, iv b]) ∧ Below W'.heap.size W' w' from fun W' => by have := ring_any s A n c0 held W'; rwa [hr] at this)
  have d1 : decide (sa ≤ x) = true := decide_eq_true (by omega)
  have d2 : decide (x - step < sa) = false := decide_eq_false (by omega)
  have d3 : decide (x < step) = false := decide_eq_false (by omega)
  have d3b : decide (x - step < 0) = false := decide_eq_false (by omega)
  have AQ := Lib.hid fun W' => at_any (x - step) true (by omega) (by omega) W'
  clear hr
  unfold Cur.cs
  go_enter Try.func64, Try.ntmps64
  go_upto_region 4 with (first
    | (refine wpList_load_row rfl 24 (.tmp 4) rfl (w.heap.size) rfl 24 _ (0, 0) _ P0.out Try.underlying24 rfl (S.i24 _ _ _ _) ?_)
    | (go_at_call 67; (with_reducible refine (RQ.out _).mono ?_); rintro e w1 ⟨rfl, hb1⟩; have P1 := Lib.hid (bkBelow P0.out hb1); have C1 := Lib.hid (bkBelow C0.out hb1); have Z1 := Lib.hid (bkBelow Z0.out hb1); have B1 := bdT B0 B0.size hb1; clear P0 C0 Z0))
  have k0 := (bkCell C1.out 0).trans (show _ = some (iv ps) from rfl)
  have k1 := (bkCell C1.out 1).trans (show _ = some (iv fr) from rfl)
  have k2 := (bkCell C1.out 2).trans (show _ = some (.bool true) from rfl)
  have p1 := (bkCell P1.out 1).trans (show _ = some (.slice A n c0) from rfl)
  go_wp2_with (first
    | (go_at_call 72; (with_reducible refine (AQ.out _).mono ?_); rintro e w2 ⟨rfl, hb2⟩; have P2 := Lib.hid (bkBelow P1.out hb2); have C2 := Lib.hid (bkBelow C1.out hb2); have Z2 := Lib.hid (bkBelow Z1.out hb2); have B2 := bdT B1 B1.size hb2; clear P1 C1 Z1)
    | (refine wpList_store_row rfl 26 (.tmp 8) (.tmp 97) rfl (w.heap.size + 1 + 1) (Cur.cs (stand (x - step, true, true))) rfl rfl 26 _ Z2.out (Cur.i26 _) (Cur.sz _ _) (Cur.one _) ?_))
  refine bodyPost_ret (results_cell_row rfl _ _ (w.heap.size + 1 + 1) 26 _ (0, 0) _ rfl (setRow_heap _ _ _ _ _ _ Z2.out) Try.underlying26 rfl (Cur.i26 _)) rfl ⟨rfl, below_setRow B2 (by omega) _⟩
set_option maxHeartbeats 8000000 in
set_option maxRecDepth 100000 in
theorem gone_b2o (s : S) (A : Option Addr) (n c0 : Nat) (ps fr step x sa E a b : Int) (held : Bool) (hr : rgS s held = (2, a, b)) (hn : n ≤ 4096) (f1 : wrap64 (wrap64 (ps * 65536) + fr) = x) (f4 : wrap64 (a * 65536) = sa) (f5 : wrap64 (b * 65536) = E) (x0 : 0 ≤ x) (x1 : x ≤ 300000000) (s0 : 0 ≤ step) (s1 : step ≤ 300000000) (S0 : 0 ≤ sa) (S1 : sa ≤ 300000000) (E1 : sa ≤ E) (E2 : E ≤ 300000000) (hc : x < sa) (hz : x < step) (w : World) : Calls Try.prog 64 #[.agg (s.cs A n c0), .agg (Cur.cs ⟨ps, fr, true, false⟩), iv step, .bool held] w fun e w' => e = .returned (.agg (Cur.cs Cur.over)) ∧ Below w.heap.size w w' := by
  have B0 : Below w.heap.size w (((w.alloc (Obj.cells (s.cs A n c0) 24)).alloc (Obj.cells #[iv ps, iv fr, .bool true, .bool false] 26)).alloc (Obj.cells #[iv 0, iv 0, .bool false, .bool false] 26)) := (((Below.refl _ _).alloc (Nat.le_refl _) _).alloc (by simp) _).alloc (by simp; omega) _
  have P0 := Lib.hid (show (((w.alloc (Obj.cells (s.cs A n c0) 24)).alloc (Obj.cells #[iv ps, iv fr, .bool true, .bool false] 26)).alloc (Obj.cells #[iv 0, iv 0, .bool false, .bool false] 26)).heap[w.heap.size]? = some (.cells (s.cs A n c0) 24 (0, 0)) from al3A w _ _ _)
  have C0 := Lib.hid (show (((w.alloc (Obj.cells (s.cs A n c0) 24)).alloc (Obj.cells #[iv ps, iv fr, .bool true, .bool false] 26)).alloc (Obj.cells #[iv 0, iv 0, .bool false, .bool false] 26)).heap[w.heap.size + 1]? = some (.cells (Cur.cs ⟨ps, fr, true, false⟩) 26 (0, 0)) from al3B w _ _ _)
  have Z0 := Lib.hid (show (((w.alloc (Obj.cells (s.cs A n c0) 24)).alloc (Obj.cells #[iv ps, iv fr, .bool true, .bool false] 26)).alloc (Obj.cells #[iv 0, iv 0, .bool false, .bool false] 26)).heap[w.heap.size + 1 + 1]? = some (.cells (Cur.cs Cur.zero) 26 (0, 0)) from al3C w _ _ _)
  have RQ := Lib.hid (show ∀ W' : World, Calls Try.prog 67 #[.agg (s.cs A n c0), .bool held] W' fun e w' => e = .returned (.tuple #[iv 2, iv a, iv b]) ∧ Below W'.heap.size W' w' from fun W' => by have := ring_any s A n c0 held W'; rwa [hr] at this)
  have d1 : decide (sa ≤ x) = false := decide_eq_false (by omega)
  have d3 : decide (x < step) = true := decide_eq_true (by omega)
  have d3b : decide (x - step < 0) = true := decide_eq_true (by omega)
  have OQ := Lib.hid fun W' => over_any W'
  clear hr
  unfold Cur.cs
  go_enter Try.func64, Try.ntmps64
  go_upto_region 4 with (first
    | (refine wpList_load_row rfl 24 (.tmp 4) rfl (w.heap.size) rfl 24 _ (0, 0) _ P0.out Try.underlying24 rfl (S.i24 _ _ _ _) ?_)
    | (go_at_call 67; (with_reducible refine (RQ.out _).mono ?_); rintro e w1 ⟨rfl, hb1⟩; have P1 := Lib.hid (bkBelow P0.out hb1); have C1 := Lib.hid (bkBelow C0.out hb1); have Z1 := Lib.hid (bkBelow Z0.out hb1); have B1 := bdT B0 B0.size hb1; clear P0 C0 Z0))
  have k0 := (bkCell C1.out 0).trans (show _ = some (iv ps) from rfl)
  have k1 := (bkCell C1.out 1).trans (show _ = some (iv fr) from rfl)
  have k2 := (bkCell C1.out 2).trans (show _ = some (.bool true) from rfl)
  have p1 := (bkCell P1.out 1).trans (show _ = some (.slice A n c0) from rfl)
  go_wp2_with (first
    | (go_at_call 71; (with_reducible refine (OQ.out _).mono ?_); rintro e w2 ⟨rfl, hb2⟩; have P2 := Lib.hid (bkBelow P1.out hb2); have C2 := Lib.hid (bkBelow C1.out hb2); have Z2 := Lib.hid (bkBelow Z1.out hb2); have B2 := bdT B1 B1.size hb2; clear P1 C1 Z1)
    | (refine wpList_store_row rfl 26 (.tmp 8) (.tmp 95) rfl (w.heap.size + 1 + 1) (Cur.cs Cur.over) rfl rfl 26 _ Z2.out (Cur.i26 _) (Cur.sz _ _) (Cur.one _) ?_))
  refine bodyPost_ret (results_cell_row rfl _ _ (w.heap.size + 1 + 1) 26 _ (0, 0) _ rfl (setRow_heap _ _ _ _ _ _ Z2.out) Try.underlying26 rfl (Cur.i26 _)) rfl ⟨rfl, below_setRow B2 (by omega) _⟩
set_option maxHeartbeats 8000000 in
set_option maxRecDepth 100000 in
theorem gone_b2s (s : S) (A : Option Addr) (n c0 : Nat) (ps fr step x sa E a b : Int) (held : Bool) (hr : rgS s held = (2, a, b)) (hn : n ≤ 4096) (f1 : wrap64 (wrap64 (ps * 65536) + fr) = x) (f4 : wrap64 (a * 65536) = sa) (f5 : wrap64 (b * 65536) = E) (x0 : 0 ≤ x) (x1 : x ≤ 300000000) (s0 : 0 ≤ step) (s1 : step ≤ 300000000) (S0 : 0 ≤ sa) (S1 : sa ≤ 300000000) (E1 : sa ≤ E) (E2 : E ≤ 300000000) (hc : x < sa) (hz : step ≤ x) (w : World) : Calls Try.prog 64 #[.agg (s.cs A n c0), .agg (Cur.cs ⟨ps, fr, true, false⟩), iv step, .bool held] w fun e w' => e = .returned (.agg (Cur.cs (stand (x - step, true, true)))) ∧ Below w.heap.size w w' := by
  have B0 : Below w.heap.size w (((w.alloc (Obj.cells (s.cs A n c0) 24)).alloc (Obj.cells #[iv ps, iv fr, .bool true, .bool false] 26)).alloc (Obj.cells #[iv 0, iv 0, .bool false, .bool false] 26)) := (((Below.refl _ _).alloc (Nat.le_refl _) _).alloc (by simp) _).alloc (by simp; omega) _
  have P0 := Lib.hid (show (((w.alloc (Obj.cells (s.cs A n c0) 24)).alloc (Obj.cells #[iv ps, iv fr, .bool true, .bool false] 26)).alloc (Obj.cells #[iv 0, iv 0, .bool false, .bool false] 26)).heap[w.heap.size]? = some (.cells (s.cs A n c0) 24 (0, 0)) from al3A w _ _ _)
  have C0 := Lib.hid (show (((w.alloc (Obj.cells (s.cs A n c0) 24)).alloc (Obj.cells #[iv ps, iv fr, .bool true, .bool false] 26)).alloc (Obj.cells #[iv 0, iv 0, .bool false, .bool false] 26)).heap[w.heap.size + 1]? = some (.cells (Cur.cs ⟨ps, fr, true, false⟩) 26 (0, 0)) from al3B w _ _ _)
  have Z0 := Lib.hid (show (((w.alloc (Obj.cells (s.cs A n c0) 24)).alloc (Obj.cells #[iv ps, iv fr, .bool true, .bool false] 26)).alloc (Obj.cells #[iv 0, iv 0, .bool false, .bool false] 26)).heap[w.heap.size + 1 + 1]? = some (.cells (Cur.cs Cur.zero) 26 (0, 0)) from al3C w _ _ _)
  have RQ := Lib.hid (show ∀ W' : World, Calls Try.prog 67 #[.agg (s.cs A n c0), .bool held] W' fun e w' => e = .returned (.tuple #[iv 2, iv a, iv b]) ∧ Below W'.heap.size W' w' from fun W' => by have := ring_any s A n c0 held W'; rwa [hr] at this)
  have d1 : decide (sa ≤ x) = false := decide_eq_false (by omega)
  have d3 : decide (x < step) = false := decide_eq_false (by omega)
  have d3b : decide (x - step < 0) = false := decide_eq_false (by omega)
  have AQ := Lib.hid fun W' => at_any (x - step) true (by omega) (by omega) W'
  clear hr
  unfold Cur.cs
  go_enter Try.func64, Try.ntmps64
  go_upto_region 4 with (first
    | (refine wpList_load_row rfl 24 (.tmp 4) rfl (w.heap.size) rfl 24 _ (0, 0) _ P0.out Try.underlying24 rfl (S.i24 _ _ _ _) ?_)
    | (go_at_call 67; (with_reducible refine (RQ.out _).mono ?_); rintro e w1 ⟨rfl, hb1⟩; have P1 := Lib.hid (bkBelow P0.out hb1); have C1 := Lib.hid (bkBelow C0.out hb1); have Z1 := Lib.hid (bkBelow Z0.out hb1); have B1 := bdT B0 B0.size hb1; clear P0 C0 Z0))
  have k0 := (bkCell C1.out 0).trans (show _ = some (iv ps) from rfl)
  have k1 := (bkCell C1.out 1).trans (show _ = some (iv fr) from rfl)
  have k2 := (bkCell C1.out 2).trans (show _ = some (.bool true) from rfl)
  have p1 := (bkCell P1.out 1).trans (show _ = some (.slice A n c0) from rfl)
  go_wp2_with (first
    | (go_at_call 72; (with_reducible refine (AQ.out _).mono ?_); rintro e w2 ⟨rfl, hb2⟩; have P2 := Lib.hid (bkBelow P1.out hb2); have C2 := Lib.hid (bkBelow C1.out hb2); have Z2 := Lib.hid (bkBelow Z1.out hb2); have B2 := bdT B1 B1.size hb2; clear P1 C1 Z1)
    | (refine wpList_store_row rfl 26 (.tmp 8) (.tmp 97) rfl (w.heap.size + 1 + 1) (Cur.cs (stand (x - step, true, true))) rfl rfl 26 _ Z2.out (Cur.i26 _) (Cur.sz _ _) (Cur.one _) ?_))
  refine bodyPost_ret (results_cell_row rfl _ _ (w.heap.size + 1 + 1) 26 _ (0, 0) _ rfl (setRow_heap _ _ _ _ _ _ Z2.out) Try.underlying26 rfl (Cur.i26 _)) rfl ⟨rfl, below_setRow B2 (by omega) _⟩
set_option maxHeartbeats 8000000 in
set_option maxRecDepth 100000 in
theorem gone_b1w (s : S) (A : Option Addr) (n c0 : Nat) (ps fr step x sa E a b : Int) (held : Bool) (hr : rgS s held = (1, a, b)) (hn : n ≤ 4096) (f1 : wrap64 (wrap64 (ps * 65536) + fr) = x) (f4 : wrap64 (a * 65536) = sa) (f5 : wrap64 (b * 65536) = E) (x0 : 0 ≤ x) (x1 : x ≤ 300000000) (s0 : 0 ≤ step) (s1 : step ≤ 300000000) (S0 : 0 ≤ sa) (S1 : sa ≤ 300000000) (E1 : sa ≤ E) (E2 : E ≤ 300000000) (hc : sa ≤ x) (hc2 : x - step < sa) (hW : 0 < (E - sa)) (w : World) : Calls Try.prog 64 #[.agg (s.cs A n c0), .agg (Cur.cs ⟨ps, fr, true, false⟩), iv step, .bool held] w fun e w' => e = .returned (.agg (Cur.cs (stand (sa + (x - step - sa) % (E - sa), true, true)))) ∧ Below w.heap.size w w' := by
  have B0 : Below w.heap.size w (((w.alloc (Obj.cells (s.cs A n c0) 24)).alloc (Obj.cells #[iv ps, iv fr, .bool true, .bool false] 26)).alloc (Obj.cells #[iv 0, iv 0, .bool false, .bool false] 26)) := (((Below.refl _ _).alloc (Nat.le_refl _) _).alloc (by simp) _).alloc (by simp; omega) _
  have P0 := Lib.hid (show (((w.alloc (Obj.cells (s.cs A n c0) 24)).alloc (Obj.cells #[iv ps, iv fr, .bool true, .bool false] 26)).alloc (Obj.cells #[iv 0, iv 0, .bool false, .bool false] 26)).heap[w.heap.size]? = some (.cells (s.cs A n c0) 24 (0, 0)) from al3A w _ _ _)
  have C0 := Lib.hid (show (((w.alloc (Obj.cells (s.cs A n c0) 24)).alloc (Obj.cells #[iv ps, iv fr, .bool true, .bool false] 26)).alloc (Obj.cells #[iv 0, iv 0, .bool false, .bool false] 26)).heap[w.heap.size + 1]? = some (.cells (Cur.cs ⟨ps, fr, true, false⟩) 26 (0, 0)) from al3B w _ _ _)
  have Z0 := Lib.hid (show (((w.alloc (Obj.cells (s.cs A n c0) 24)).alloc (Obj.cells #[iv ps, iv fr, .bool true, .bool false] 26)).alloc (Obj.cells #[iv 0, iv 0, .bool false, .bool false] 26)).heap[w.heap.size + 1 + 1]? = some (.cells (Cur.cs Cur.zero) 26 (0, 0)) from al3C w _ _ _)
  have RQ := Lib.hid (show ∀ W' : World, Calls Try.prog 67 #[.agg (s.cs A n c0), .bool held] W' fun e w' => e = .returned (.tuple #[iv 1, iv a, iv b]) ∧ Below W'.heap.size W' w' from fun W' => by have := ring_any s A n c0 held W'; rwa [hr] at this)
  have d1 : decide (sa ≤ x) = true := decide_eq_true (by omega)
  have d2 : decide (x - step < sa) = true := decide_eq_true (by omega)
  have MQ := Lib.hid fun W' => rmod_any (x - step - sa) (E - sa) (by omega) (by omega) hW (by omega) W'
  have q2 := Int.emod_nonneg (x - step - sa) (show (E - sa) ≠ 0 by omega)
  have q3 := Int.emod_lt_of_pos (x - step - sa) hW
  obtain ⟨v, hv⟩ : ∃ v, (x - step - sa) % (E - sa) = v := ⟨_, rfl⟩
  rw [hv] at q2 q3 MQ ⊢
  have AQ := Lib.hid fun W' => at_any (sa + v) true (by omega) (by omega) W'
  clear hv
  clear hr
  unfold Cur.cs
  go_enter Try.func64, Try.ntmps64
  go_upto_region 4 with (first
    | (refine wpList_load_row rfl 24 (.tmp 4) rfl (w.heap.size) rfl 24 _ (0, 0) _ P0.out Try.underlying24 rfl (S.i24 _ _ _ _) ?_)
    | (go_at_call 67; (with_reducible refine (RQ.out _).mono ?_); rintro e w1 ⟨rfl, hb1⟩; have P1 := Lib.hid (bkBelow P0.out hb1); have C1 := Lib.hid (bkBelow C0.out hb1); have Z1 := Lib.hid (bkBelow Z0.out hb1); have B1 := bdT B0 B0.size hb1; clear P0 C0 Z0))
  have k0 := (bkCell C1.out 0).trans (show _ = some (iv ps) from rfl)
  have k1 := (bkCell C1.out 1).trans (show _ = some (iv fr) from rfl)
  have k2 := (bkCell C1.out 2).trans (show _ = some (.bool true) from rfl)
  have p1 := (bkCell P1.out 1).trans (show _ = some (.slice A n c0) from rfl)
  go_wp2_with (first
    | (go_at_call 108; (with_reducible refine (MQ.out _).mono ?_); rintro e w7 ⟨rfl, rfl⟩)
    | (go_at_call 72; (with_reducible refine (AQ.out _).mono ?_); rintro e w2 ⟨rfl, hb2⟩; have P2 := Lib.hid (bkBelow P1.out hb2); have C2 := Lib.hid (bkBelow C1.out hb2); have Z2 := Lib.hid (bkBelow Z1.out hb2); have B2 := bdT B1 B1.size hb2; clear P1 C1 Z1)
    | (refine wpList_store_row rfl 26 (.tmp 8) (.tmp 66) rfl (w.heap.size + 1 + 1) (Cur.cs (stand (sa + v, true, true))) rfl rfl 26 _ Z2.out (Cur.i26 _) (Cur.sz _ _) (Cur.one _) ?_))
  refine bodyPost_ret (results_cell_row rfl _ _ (w.heap.size + 1 + 1) 26 _ (0, 0) _ rfl (setRow_heap _ _ _ _ _ _ Z2.out) Try.underlying26 rfl (Cur.i26 _)) rfl ⟨rfl, below_setRow B2 (by omega) _⟩
set_option maxHeartbeats 8000000 in
set_option maxRecDepth 100000 in
theorem gone_b2ta (s : S) (A : Option Addr) (n c0 : Nat) (ps fr step x sa E a b : Int) (held : Bool) (hr : rgS s held = (2, a, b)) (hn : n ≤ 4096) (f1 : wrap64 (wrap64 (ps * 65536) + fr) = x) (f4 : wrap64 (a * 65536) = sa) (f5 : wrap64 (b * 65536) = E) (x0 : 0 ≤ x) (x1 : x ≤ 300000000) (s0 : 0 ≤ step) (s1 : step ≤ 300000000) (S0 : 0 ≤ sa) (S1 : sa ≤ 300000000) (E1 : sa ≤ E) (E2 : E ≤ 300000000) (hc : sa ≤ x) (hW : 0 < (E - sa)) (hz : x < E) (w : World) : Calls Try.prog 64 #[.agg (s.cs A n c0), .agg (Cur.cs ⟨ps, fr, true, false⟩), iv step, .bool held] w fun e w' => e = .returned (.agg (Cur.cs (stand (if (2 * (E - sa) - 1 - (x - sa) + step) % (2 * (E - sa)) < (E - sa) then (sa + (2 * (E - sa) - 1 - (x - sa) + step) % (2 * (E - sa)), false, true) else (sa + 2 * (E - sa) - 1 - (2 * (E - sa) - 1 - (x - sa) + step) % (2 * (E - sa)), true, true))))) ∧ Below w.heap.size w w' := by
  have B0 : Below w.heap.size w (((w.alloc (Obj.cells (s.cs A n c0) 24)).alloc (Obj.cells #[iv ps, iv fr, .bool true, .bool false] 26)).alloc (Obj.cells #[iv 0, iv 0, .bool false, .bool false] 26)) := (((Below.refl _ _).alloc (Nat.le_refl _) _).alloc (by simp) _).alloc (by simp; omega) _
  have P0 := Lib.hid (show (((w.alloc (Obj.cells (s.cs A n c0) 24)).alloc (Obj.cells #[iv ps, iv fr, .bool true, .bool false] 26)).alloc (Obj.cells #[iv 0, iv 0, .bool false, .bool false] 26)).heap[w.heap.size]? = some (.cells (s.cs A n c0) 24 (0, 0)) from al3A w _ _ _)
  have C0 := Lib.hid (show (((w.alloc (Obj.cells (s.cs A n c0) 24)).alloc (Obj.cells #[iv ps, iv fr, .bool true, .bool false] 26)).alloc (Obj.cells #[iv 0, iv 0, .bool false, .bool false] 26)).heap[w.heap.size + 1]? = some (.cells (Cur.cs ⟨ps, fr, true, false⟩) 26 (0, 0)) from al3B w _ _ _)
  have Z0 := Lib.hid (show (((w.alloc (Obj.cells (s.cs A n c0) 24)).alloc (Obj.cells #[iv ps, iv fr, .bool true, .bool false] 26)).alloc (Obj.cells #[iv 0, iv 0, .bool false, .bool false] 26)).heap[w.heap.size + 1 + 1]? = some (.cells (Cur.cs Cur.zero) 26 (0, 0)) from al3C w _ _ _)
  have RQ := Lib.hid (show ∀ W' : World, Calls Try.prog 67 #[.agg (s.cs A n c0), .bool held] W' fun e w' => e = .returned (.tuple #[iv 2, iv a, iv b]) ∧ Below W'.heap.size W' w' from fun W' => by have := ring_any s A n c0 held W'; rwa [hr] at this)
  have d1 : decide (sa ≤ x) = true := decide_eq_true (by omega)
  have d2 : decide (E ≤ x) = false := decide_eq_false (by omega)
  have TQ := Lib.hid fun W' => turn_any sa (E - sa) (2 * (E - sa) - 1 - (x - sa) + step) (by omega) (by omega) hW (by omega) (by omega) (by omega) W'
  obtain ⟨R, hR⟩ : ∃ R, (stand (if (2 * (E - sa) - 1 - (x - sa) + step) % (2 * (E - sa)) < (E - sa) then (sa + (2 * (E - sa) - 1 - (x - sa) + step) % (2 * (E - sa)), false, true) else (sa + 2 * (E - sa) - 1 - (2 * (E - sa) - 1 - (x - sa) + step) % (2 * (E - sa)), true, true))) = R := ⟨_, rfl⟩
  rw [hR] at TQ ⊢
  have f8 : wrap64 (x - sa) = x - sa := wrap_in (by omega) (by omega)
  have f9 : wrap64 (2 * (E - sa) - 1 - (x - sa)) = 2 * (E - sa) - 1 - (x - sa) := wrap_in (by omega) (by omega)
  have f10 : wrap64 (2 * (E - sa) - 1 - (x - sa) + step) = (2 * (E - sa) - 1 - (x - sa) + step) := wrap_in (by omega) (by omega)
  have W0 : 0 ≤ (E - sa) := by omega
  have W1 : (E - sa) ≤ 300000000 := by omega
  clear hR
  clear hr
  unfold Cur.cs
  go_enter Try.func64, Try.ntmps64
  go_upto_region 4 with (first
    | (refine wpList_load_row rfl 24 (.tmp 4) rfl (w.heap.size) rfl 24 _ (0, 0) _ P0.out Try.underlying24 rfl (S.i24 _ _ _ _) ?_)
    | (go_at_call 67; (with_reducible refine (RQ.out _).mono ?_); rintro e w1 ⟨rfl, hb1⟩; have P1 := Lib.hid (bkBelow P0.out hb1); have C1 := Lib.hid (bkBelow C0.out hb1); have Z1 := Lib.hid (bkBelow Z0.out hb1); have B1 := bdT B0 B0.size hb1; clear P0 C0 Z0))
  have k0 := (bkCell C1.out 0).trans (show _ = some (iv ps) from rfl)
  have k1 := (bkCell C1.out 1).trans (show _ = some (iv fr) from rfl)
  have k2 := (bkCell C1.out 2).trans (show _ = some (.bool true) from rfl)
  have p1 := (bkCell P1.out 1).trans (show _ = some (.slice A n c0) from rfl)
  go_wp2_with (first
    | (go_at_call 109; (with_reducible refine (TQ.out _).mono ?_); rintro e w2 ⟨rfl, hb2⟩; have P2 := Lib.hid (bkBelow P1.out hb2); have C2 := Lib.hid (bkBelow C1.out hb2); have Z2 := Lib.hid (bkBelow Z1.out hb2); have B2 := bdT B1 B1.size hb2; clear P1 C1 Z1)
    | (refine wpList_store_row rfl 26 (.tmp 8) (.tmp 91) rfl (w.heap.size + 1 + 1) (Cur.cs R) rfl rfl 26 _ Z2.out (Cur.i26 _) (Cur.sz _ _) (Cur.one _) ?_))
  refine bodyPost_ret (results_cell_row rfl _ _ (w.heap.size + 1 + 1) 26 _ (0, 0) _ rfl (setRow_heap _ _ _ _ _ _ Z2.out) Try.underlying26 rfl (Cur.i26 _)) rfl ⟨rfl, below_setRow B2 (by omega) _⟩
set_option maxHeartbeats 8000000 in
set_option maxRecDepth 100000 in
theorem gone_b2tb (s : S) (A : Option Addr) (n c0 : Nat) (ps fr step x sa E a b : Int) (held : Bool) (hr : rgS s held = (2, a, b)) (hn : n ≤ 4096) (f1 : wrap64 (wrap64 (ps * 65536) + fr) = x) (f4 : wrap64 (a * 65536) = sa) (f5 : wrap64 (b * 65536) = E) (x0 : 0 ≤ x) (x1 : x ≤ 300000000) (s0 : 0 ≤ step) (s1 : step ≤ 300000000) (S0 : 0 ≤ sa) (S1 : sa ≤ 300000000) (E1 : sa ≤ E) (E2 : E ≤ 300000000) (hc : sa ≤ x) (hW : 0 < (E - sa)) (hz : E ≤ x) (w : World) : Calls Try.prog 64 #[.agg (s.cs A n c0), .agg (Cur.cs ⟨ps, fr, true, false⟩), iv step, .bool held] w fun e w' => e = .returned (.agg (Cur.cs (stand (if (2 * (E - sa) - 1 - ((E - 1) - sa) + step) % (2 * (E - sa)) < (E - sa) then (sa + (2 * (E - sa) - 1 - ((E - 1) - sa) + step) % (2 * (E - sa)), false, true) else (sa + 2 * (E - sa) - 1 - (2 * (E - sa) - 1 - ((E - 1) - sa) + step) % (2 * (E - sa)), true, true))))) ∧ Below w.heap.size w w' := by
  have B0 : Below w.heap.size w (((w.alloc (Obj.cells (s.cs A n c0) 24)).alloc (Obj.cells #[iv ps, iv fr, .bool true, .bool false] 26)).alloc (Obj.cells #[iv 0, iv 0, .bool false, .bool false] 26)) := (((Below.refl _ _).alloc (Nat.le_refl _) _).alloc (by simp) _).alloc (by simp; omega) _
  have P0 := Lib.hid (show (((w.alloc (Obj.cells (s.cs A n c0) 24)).alloc (Obj.cells #[iv ps, iv fr, .bool true, .bool false] 26)).alloc (Obj.cells #[iv 0, iv 0, .bool false, .bool false] 26)).heap[w.heap.size]? = some (.cells (s.cs A n c0) 24 (0, 0)) from al3A w _ _ _)
  have C0 := Lib.hid (show (((w.alloc (Obj.cells (s.cs A n c0) 24)).alloc (Obj.cells #[iv ps, iv fr, .bool true, .bool false] 26)).alloc (Obj.cells #[iv 0, iv 0, .bool false, .bool false] 26)).heap[w.heap.size + 1]? = some (.cells (Cur.cs ⟨ps, fr, true, false⟩) 26 (0, 0)) from al3B w _ _ _)
  have Z0 := Lib.hid (show (((w.alloc (Obj.cells (s.cs A n c0) 24)).alloc (Obj.cells #[iv ps, iv fr, .bool true, .bool false] 26)).alloc (Obj.cells #[iv 0, iv 0, .bool false, .bool false] 26)).heap[w.heap.size + 1 + 1]? = some (.cells (Cur.cs Cur.zero) 26 (0, 0)) from al3C w _ _ _)
  have RQ := Lib.hid (show ∀ W' : World, Calls Try.prog 67 #[.agg (s.cs A n c0), .bool held] W' fun e w' => e = .returned (.tuple #[iv 2, iv a, iv b]) ∧ Below W'.heap.size W' w' from fun W' => by have := ring_any s A n c0 held W'; rwa [hr] at this)
  have d1 : decide (sa ≤ x) = true := decide_eq_true (by omega)
  have d2 : decide (E ≤ x) = true := decide_eq_true (by omega)
  have TQ := Lib.hid fun W' => turn_any sa (E - sa) (2 * (E - sa) - 1 - ((E - 1) - sa) + step) (by omega) (by omega) hW (by omega) (by omega) (by omega) W'
  obtain ⟨R, hR⟩ : ∃ R, (stand (if (2 * (E - sa) - 1 - ((E - 1) - sa) + step) % (2 * (E - sa)) < (E - sa) then (sa + (2 * (E - sa) - 1 - ((E - 1) - sa) + step) % (2 * (E - sa)), false, true) else (sa + 2 * (E - sa) - 1 - (2 * (E - sa) - 1 - ((E - 1) - sa) + step) % (2 * (E - sa)), true, true))) = R := ⟨_, rfl⟩
  rw [hR] at TQ ⊢
  have f8 : wrap64 ((E - 1) - sa) = (E - 1) - sa := wrap_in (by omega) (by omega)
  have f9 : wrap64 (2 * (E - sa) - 1 - ((E - 1) - sa)) = 2 * (E - sa) - 1 - ((E - 1) - sa) := wrap_in (by omega) (by omega)
  have f10 : wrap64 (2 * (E - sa) - 1 - ((E - 1) - sa) + step) = (2 * (E - sa) - 1 - ((E - 1) - sa) + step) := wrap_in (by omega) (by omega)
  have W0 : 0 ≤ (E - sa) := by omega
  have W1 : (E - sa) ≤ 300000000 := by omega
  clear hR
  clear hr
  unfold Cur.cs
  go_enter Try.func64, Try.ntmps64
  go_upto_region 4 with (first
    | (refine wpList_load_row rfl 24 (.tmp 4) rfl (w.heap.size) rfl 24 _ (0, 0) _ P0.out Try.underlying24 rfl (S.i24 _ _ _ _) ?_)
    | (go_at_call 67; (with_reducible refine (RQ.out _).mono ?_); rintro e w1 ⟨rfl, hb1⟩; have P1 := Lib.hid (bkBelow P0.out hb1); have C1 := Lib.hid (bkBelow C0.out hb1); have Z1 := Lib.hid (bkBelow Z0.out hb1); have B1 := bdT B0 B0.size hb1; clear P0 C0 Z0))
  have k0 := (bkCell C1.out 0).trans (show _ = some (iv ps) from rfl)
  have k1 := (bkCell C1.out 1).trans (show _ = some (iv fr) from rfl)
  have k2 := (bkCell C1.out 2).trans (show _ = some (.bool true) from rfl)
  have p1 := (bkCell P1.out 1).trans (show _ = some (.slice A n c0) from rfl)
  go_wp2_with (first
    | (go_at_call 109; (with_reducible refine (TQ.out _).mono ?_); rintro e w2 ⟨rfl, hb2⟩; have P2 := Lib.hid (bkBelow P1.out hb2); have C2 := Lib.hid (bkBelow C1.out hb2); have Z2 := Lib.hid (bkBelow Z1.out hb2); have B2 := bdT B1 B1.size hb2; clear P1 C1 Z1)
    | (refine wpList_store_row rfl 26 (.tmp 8) (.tmp 91) rfl (w.heap.size + 1 + 1) (Cur.cs R) rfl rfl 26 _ Z2.out (Cur.i26 _) (Cur.sz _ _) (Cur.one _) ?_))
  refine bodyPost_ret (results_cell_row rfl _ _ (w.heap.size + 1 + 1) 26 _ (0, 0) _ rfl (setRow_heap _ _ _ _ _ _ Z2.out) Try.underlying26 rfl (Cur.i26 _)) rfl ⟨rfl, below_setRow B2 (by omega) _⟩
set_option maxHeartbeats 8000000 in
set_option maxRecDepth 100000 in
theorem gone_f0o (s : S) (A : Option Addr) (n c0 : Nat) (ps fr step x sa E a b : Int) (held : Bool) (hr : rgS s held = (0, a, b)) (hn : n ≤ 4096) (f1 : wrap64 (wrap64 (ps * 65536) + fr) = x) (f4 : wrap64 (a * 65536) = sa) (f5 : wrap64 (b * 65536) = E) (x0 : 0 ≤ x) (x1 : x ≤ 300000000) (s0 : 0 ≤ step) (s1 : step ≤ 300000000) (S0 : 0 ≤ sa) (S1 : sa ≤ 300000000) (E1 : sa ≤ E) (E2 : E ≤ 300000000) (hz : 65536 * (n : Int) ≤ x + step) (w : World) : Calls Try.prog 64 #[.agg (s.cs A n c0), .agg (Cur.cs ⟨ps, fr, false, false⟩), iv step, .bool held] w fun e w' => e = .returned (.agg (Cur.cs Cur.over)) ∧ Below w.heap.size w w' := by
  have B0 : Below w.heap.size w (((w.alloc (Obj.cells (s.cs A n c0) 24)).alloc (Obj.cells #[iv ps, iv fr, .bool false, .bool false] 26)).alloc (Obj.cells #[iv 0, iv 0, .bool false, .bool false] 26)) := (((Below.refl _ _).alloc (Nat.le_refl _) _).alloc (by simp) _).alloc (by simp; omega) _
  have P0 := Lib.hid (show (((w.alloc (Obj.cells (s.cs A n c0) 24)).alloc (Obj.cells #[iv ps, iv fr, .bool false, .bool false] 26)).alloc (Obj.cells #[iv 0, iv 0, .bool false, .bool false] 26)).heap[w.heap.size]? = some (.cells (s.cs A n c0) 24 (0, 0)) from al3A w _ _ _)
  have C0 := Lib.hid (show (((w.alloc (Obj.cells (s.cs A n c0) 24)).alloc (Obj.cells #[iv ps, iv fr, .bool false, .bool false] 26)).alloc (Obj.cells #[iv 0, iv 0, .bool false, .bool false] 26)).heap[w.heap.size + 1]? = some (.cells (Cur.cs ⟨ps, fr, false, false⟩) 26 (0, 0)) from al3B w _ _ _)
  have Z0 := Lib.hid (show (((w.alloc (Obj.cells (s.cs A n c0) 24)).alloc (Obj.cells #[iv ps, iv fr, .bool false, .bool false] 26)).alloc (Obj.cells #[iv 0, iv 0, .bool false, .bool false] 26)).heap[w.heap.size + 1 + 1]? = some (.cells (Cur.cs Cur.zero) 26 (0, 0)) from al3C w _ _ _)
  have RQ := Lib.hid (show ∀ W' : World, Calls Try.prog 67 #[.agg (s.cs A n c0), .bool held] W' fun e w' => e = .returned (.tuple #[iv 0, iv a, iv b]) ∧ Below W'.heap.size W' w' from fun W' => by have := ring_any s A n c0 held W'; rwa [hr] at this)
  have d3 : decide (65536 * (n : Int) ≤ x + step) = true := decide_eq_true (by omega)
  have fN : wrap64 (65536 * (n : Int)) = 65536 * (n : Int) := wrap_in (by omega) (by omega)
  have OQ := Lib.hid fun W' => over_any W'
  clear hr
  unfold Cur.cs
  go_enter Try.func64, Try.ntmps64
  go_upto_region 4 with (first
    | (refine wpList_load_row rfl 24 (.tmp 4) rfl (w.heap.size) rfl 24 _ (0, 0) _ P0.out Try.underlying24 rfl (S.i24 _ _ _ _) ?_)
    | (go_at_call 67; (with_reducible refine (RQ.out _).mono ?_); rintro e w1 ⟨rfl, hb1⟩; have P1 := Lib.hid (bkBelow P0.out hb1); have C1 := Lib.hid (bkBelow C0.out hb1); have Z1 := Lib.hid (bkBelow Z0.out hb1); have B1 := bdT B0 B0.size hb1; clear P0 C0 Z0))
  have k0 := (bkCell C1.out 0).trans (show _ = some (iv ps) from rfl)
  have k1 := (bkCell C1.out 1).trans (show _ = some (iv fr) from rfl)
  have k2 := (bkCell C1.out 2).trans (show _ = some (.bool false) from rfl)
  have p1 := (bkCell P1.out 1).trans (show _ = some (.slice A n c0) from rfl)
  go_wp2_with (first
    | (go_at_call 71; (with_reducible refine (OQ.out _).mono ?_); rintro e w2 ⟨rfl, hb2⟩; have P2 := Lib.hid (bkBelow P1.out hb2); have C2 := Lib.hid (bkBelow C1.out hb2); have Z2 := Lib.hid (bkBelow Z1.out hb2); have B2 := bdT B1 B1.size hb2; clear P1 C1 Z1)
    | (refine wpList_store_row rfl 26 (.tmp 8) (.tmp 138) rfl (w.heap.size + 1 + 1) (Cur.cs Cur.over) rfl rfl 26 _ Z2.out (Cur.i26 _) (Cur.sz _ _) (Cur.one _) ?_))
  refine bodyPost_ret (results_cell_row rfl _ _ (w.heap.size + 1 + 1) 26 _ (0, 0) _ rfl (setRow_heap _ _ _ _ _ _ Z2.out) Try.underlying26 rfl (Cur.i26 _)) rfl ⟨rfl, below_setRow B2 (by omega) _⟩
set_option maxHeartbeats 8000000 in
set_option maxRecDepth 100000 in
theorem gone_f0s (s : S) (A : Option Addr) (n c0 : Nat) (ps fr step x sa E a b : Int) (held : Bool) (hr : rgS s held = (0, a, b)) (hn : n ≤ 4096) (f1 : wrap64 (wrap64 (ps * 65536) + fr) = x) (f4 : wrap64 (a * 65536) = sa) (f5 : wrap64 (b * 65536) = E) (x0 : 0 ≤ x) (x1 : x ≤ 300000000) (s0 : 0 ≤ step) (s1 : step ≤ 300000000) (S0 : 0 ≤ sa) (S1 : sa ≤ 300000000) (E1 : sa ≤ E) (E2 : E ≤ 300000000) (hz : x + step < 65536 * (n : Int)) (w : World) : Calls Try.prog 64 #[.agg (s.cs A n c0), .agg (Cur.cs ⟨ps, fr, false, false⟩), iv step, .bool held] w fun e w' => e = .returned (.agg (Cur.cs (stand (x + step, false, true)))) ∧ Below w.heap.size w w' := by
  have B0 : Below w.heap.size w (((w.alloc (Obj.cells (s.cs A n c0) 24)).alloc (Obj.cells #[iv ps, iv fr, .bool false, .bool false] 26)).alloc (Obj.cells #[iv 0, iv 0, .bool false, .bool false] 26)) := (((Below.refl _ _).alloc (Nat.le_refl _) _).alloc (by simp) _).alloc (by simp; omega) _
  have P0 := Lib.hid (show (((w.alloc (Obj.cells (s.cs A n c0) 24)).alloc (Obj.cells #[iv ps, iv fr, .bool false, .bool false] 26)).alloc (Obj.cells #[iv 0, iv 0, .bool false, .bool false] 26)).heap[w.heap.size]? = some (.cells (s.cs A n c0) 24 (0, 0)) from al3A w _ _ _)
  have C0 := Lib.hid (show (((w.alloc (Obj.cells (s.cs A n c0) 24)).alloc (Obj.cells #[iv ps, iv fr, .bool false, .bool false] 26)).alloc (Obj.cells #[iv 0, iv 0, .bool false, .bool false] 26)).heap[w.heap.size + 1]? = some (.cells (Cur.cs ⟨ps, fr, false, false⟩) 26 (0, 0)) from al3B w _ _ _)
  have Z0 := Lib.hid (show (((w.alloc (Obj.cells (s.cs A n c0) 24)).alloc (Obj.cells #[iv ps, iv fr, .bool false, .bool false] 26)).alloc (Obj.cells #[iv 0, iv 0, .bool false, .bool false] 26)).heap[w.heap.size + 1 + 1]? = some (.cells (Cur.cs Cur.zero) 26 (0, 0)) from al3C w _ _ _)
  have RQ := Lib.hid (show ∀ W' : World, Calls Try.prog 67 #[.agg (s.cs A n c0), .bool held] W' fun e w' => e = .returned (.tuple #[iv 0, iv a, iv b]) ∧ Below W'.heap.size W' w' from fun W' => by have := ring_any s A n c0 held W'; rwa [hr] at this)
  have d3 : decide (65536 * (n : Int) ≤ x + step) = false := decide_eq_false (by omega)
  have fN : wrap64 (65536 * (n : Int)) = 65536 * (n : Int) := wrap_in (by omega) (by omega)
  have AQ := Lib.hid fun W' => at_any (x + step) false (by omega) (by omega) W'
  clear hr
  unfold Cur.cs
  go_enter Try.func64, Try.ntmps64
  go_upto_region 4 with (first
    | (refine wpList_load_row rfl 24 (.tmp 4) rfl (w.heap.size) rfl 24 _ (0, 0) _ P0.out Try.underlying24 rfl (S.i24 _ _ _ _) ?_)
    | (go_at_call 67; (with_reducible refine (RQ.out _).mono ?_); rintro e w1 ⟨rfl, hb1⟩; have P1 := Lib.hid (bkBelow P0.out hb1); have C1 := Lib.hid (bkBelow C0.out hb1); have Z1 := Lib.hid (bkBelow Z0.out hb1); have B1 := bdT B0 B0.size hb1; clear P0 C0 Z0))
  have k0 := (bkCell C1.out 0).trans (show _ = some (iv ps) from rfl)
  have k1 := (bkCell C1.out 1).trans (show _ = some (iv fr) from rfl)
  have k2 := (bkCell C1.out 2).trans (show _ = some (.bool false) from rfl)
  have p1 := (bkCell P1.out 1).trans (show _ = some (.slice A n c0) from rfl)
  go_wp2_with (first
    | (go_at_call 72; (with_reducible refine (AQ.out _).mono ?_); rintro e w2 ⟨rfl, hb2⟩; have P2 := Lib.hid (bkBelow P1.out hb2); have C2 := Lib.hid (bkBelow C1.out hb2); have Z2 := Lib.hid (bkBelow Z1.out hb2); have B2 := bdT B1 B1.size hb2; clear P1 C1 Z1)
    | (refine wpList_store_row rfl 26 (.tmp 8) (.tmp 140) rfl (w.heap.size + 1 + 1) (Cur.cs (stand (x + step, false, true))) rfl rfl 26 _ Z2.out (Cur.i26 _) (Cur.sz _ _) (Cur.one _) ?_))
  refine bodyPost_ret (results_cell_row rfl _ _ (w.heap.size + 1 + 1) 26 _ (0, 0) _ rfl (setRow_heap _ _ _ _ _ _ Z2.out) Try.underlying26 rfl (Cur.i26 _)) rfl ⟨rfl, below_setRow B2 (by omega) _⟩
set_option maxHeartbeats 8000000 in
set_option maxRecDepth 100000 in
theorem gone_f1o (s : S) (A : Option Addr) (n c0 : Nat) (ps fr step x sa E a b : Int) (held : Bool) (hr : rgS s held = (1, a, b)) (hn : n ≤ 4096) (f1 : wrap64 (wrap64 (ps * 65536) + fr) = x) (f4 : wrap64 (a * 65536) = sa) (f5 : wrap64 (b * 65536) = E) (x0 : 0 ≤ x) (x1 : x ≤ 300000000) (s0 : 0 ≤ step) (s1 : step ≤ 300000000) (S0 : 0 ≤ sa) (S1 : sa ≤ 300000000) (E1 : sa ≤ E) (E2 : E ≤ 300000000) (hc : x + step < E) (hz : 65536 * (n : Int) ≤ x + step) (w : World) : Calls Try.prog 64 #[.agg (s.cs A n c0), .agg (Cur.cs ⟨ps, fr, false, false⟩), iv step, .bool held] w fun e w' => e = .returned (.agg (Cur.cs Cur.over)) ∧ Below w.heap.size w w' := by
  have B0 : Below w.heap.size w (((w.alloc (Obj.cells (s.cs A n c0) 24)).alloc (Obj.cells #[iv ps, iv fr, .bool false, .bool false] 26)).alloc (Obj.cells #[iv 0, iv 0, .bool false, .bool false] 26)) := (((Below.refl _ _).alloc (Nat.le_refl _) _).alloc (by simp) _).alloc (by simp; omega) _
  have P0 := Lib.hid (show (((w.alloc (Obj.cells (s.cs A n c0) 24)).alloc (Obj.cells #[iv ps, iv fr, .bool false, .bool false] 26)).alloc (Obj.cells #[iv 0, iv 0, .bool false, .bool false] 26)).heap[w.heap.size]? = some (.cells (s.cs A n c0) 24 (0, 0)) from al3A w _ _ _)
  have C0 := Lib.hid (show (((w.alloc (Obj.cells (s.cs A n c0) 24)).alloc (Obj.cells #[iv ps, iv fr, .bool false, .bool false] 26)).alloc (Obj.cells #[iv 0, iv 0, .bool false, .bool false] 26)).heap[w.heap.size + 1]? = some (.cells (Cur.cs ⟨ps, fr, false, false⟩) 26 (0, 0)) from al3B w _ _ _)
  have Z0 := Lib.hid (show (((w.alloc (Obj.cells (s.cs A n c0) 24)).alloc (Obj.cells #[iv ps, iv fr, .bool false, .bool false] 26)).alloc (Obj.cells #[iv 0, iv 0, .bool false, .bool false] 26)).heap[w.heap.size + 1 + 1]? = some (.cells (Cur.cs Cur.zero) 26 (0, 0)) from al3C w _ _ _)
  have RQ := Lib.hid (show ∀ W' : World, Calls Try.prog 67 #[.agg (s.cs A n c0), .bool held] W' fun e w' => e = .returned (.tuple #[iv 1, iv a, iv b]) ∧ Below W'.heap.size W' w' from fun W' => by have := ring_any s A n c0 held W'; rwa [hr] at this)
  have d1 : decide (E ≤ x + step) = false := decide_eq_false (by omega)
  have d3 : decide (65536 * (n : Int) ≤ x + step) = true := decide_eq_true (by omega)
  have fN : wrap64 (65536 * (n : Int)) = 65536 * (n : Int) := wrap_in (by omega) (by omega)
  have OQ := Lib.hid fun W' => over_any W'
  clear hr
  unfold Cur.cs
  go_enter Try.func64, Try.ntmps64
  go_upto_region 4 with (first
    | (refine wpList_load_row rfl 24 (.tmp 4) rfl (w.heap.size) rfl 24 _ (0, 0) _ P0.out Try.underlying24 rfl (S.i24 _ _ _ _) ?_)
    | (go_at_call 67; (with_reducible refine (RQ.out _).mono ?_); rintro e w1 ⟨rfl, hb1⟩; have P1 := Lib.hid (bkBelow P0.out hb1); have C1 := Lib.hid (bkBelow C0.out hb1); have Z1 := Lib.hid (bkBelow Z0.out hb1); have B1 := bdT B0 B0.size hb1; clear P0 C0 Z0))
  have k0 := (bkCell C1.out 0).trans (show _ = some (iv ps) from rfl)
  have k1 := (bkCell C1.out 1).trans (show _ = some (iv fr) from rfl)
  have k2 := (bkCell C1.out 2).trans (show _ = some (.bool false) from rfl)
  have p1 := (bkCell P1.out 1).trans (show _ = some (.slice A n c0) from rfl)
  go_wp2_with (first
    | (go_at_call 71; (with_reducible refine (OQ.out _).mono ?_); rintro e w2 ⟨rfl, hb2⟩; have P2 := Lib.hid (bkBelow P1.out hb2); have C2 := Lib.hid (bkBelow C1.out hb2); have Z2 := Lib.hid (bkBelow Z1.out hb2); have B2 := bdT B1 B1.size hb2; clear P1 C1 Z1)
    | (refine wpList_store_row rfl 26 (.tmp 8) (.tmp 138) rfl (w.heap.size + 1 + 1) (Cur.cs Cur.over) rfl rfl 26 _ Z2.out (Cur.i26 _) (Cur.sz _ _) (Cur.one _) ?_))
  refine bodyPost_ret (results_cell_row rfl _ _ (w.heap.size + 1 + 1) 26 _ (0, 0) _ rfl (setRow_heap _ _ _ _ _ _ Z2.out) Try.underlying26 rfl (Cur.i26 _)) rfl ⟨rfl, below_setRow B2 (by omega) _⟩
set_option maxHeartbeats 8000000 in
set_option maxRecDepth 100000 in
theorem gone_f1s (s : S) (A : Option Addr) (n c0 : Nat) (ps fr step x sa E a b : Int) (held : Bool) (hr : rgS s held = (1, a, b)) (hn : n ≤ 4096) (f1 : wrap64 (wrap64 (ps * 65536) + fr) = x) (f4 : wrap64 (a * 65536) = sa) (f5 : wrap64 (b * 65536) = E) (x0 : 0 ≤ x) (x1 : x ≤ 300000000) (s0 : 0 ≤ step) (s1 : step ≤ 300000000) (S0 : 0 ≤ sa) (S1 : sa ≤ 300000000) (E1 : sa ≤ E) (E2 : E ≤ 300000000) (hc : x + step < E) (hz : x + step < 65536 * (n : Int)) (w : World) : Calls Try.prog 64 #[.agg (s.cs A n c0), .agg (Cur.cs ⟨ps, fr, false, false⟩), iv step, .bool held] w fun e w' => e = .returned (.agg (Cur.cs (stand (x + step, false, true)))) ∧ Below w.heap.size w w' := by
  have B0 : Below w.heap.size w (((w.alloc (Obj.cells (s.cs A n c0) 24)).alloc (Obj.cells #[iv ps, iv fr, .bool false, .bool false] 26)).alloc (Obj.cells #[iv 0, iv 0, .bool false, .bool false] 26)) := (((Below.refl _ _).alloc (Nat.le_refl _) _).alloc (by simp) _).alloc (by simp; omega) _
  have P0 := Lib.hid (show (((w.alloc (Obj.cells (s.cs A n c0) 24)).alloc (Obj.cells #[iv ps, iv fr, .bool false, .bool false] 26)).alloc (Obj.cells #[iv 0, iv 0, .bool false, .bool false] 26)).heap[w.heap.size]? = some (.cells (s.cs A n c0) 24 (0, 0)) from al3A w _ _ _)
  have C0 := Lib.hid (show (((w.alloc (Obj.cells (s.cs A n c0) 24)).alloc (Obj.cells #[iv ps, iv fr, .bool false, .bool false] 26)).alloc (Obj.cells #[iv 0, iv 0, .bool false, .bool false] 26)).heap[w.heap.size + 1]? = some (.cells (Cur.cs ⟨ps, fr, false, false⟩) 26 (0, 0)) from al3B w _ _ _)
  have Z0 := Lib.hid (show (((w.alloc (Obj.cells (s.cs A n c0) 24)).alloc (Obj.cells #[iv ps, iv fr, .bool false, .bool false] 26)).alloc (Obj.cells #[iv 0, iv 0, .bool false, .bool false] 26)).heap[w.heap.size + 1 + 1]? = some (.cells (Cur.cs Cur.zero) 26 (0, 0)) from al3C w _ _ _)
  have RQ := Lib.hid (show ∀ W' : World, Calls Try.prog 67 #[.agg (s.cs A n c0), .bool held] W' fun e w' => e = .returned (.tuple #[iv 1, iv a, iv b]) ∧ Below W'.heap.size W' w' from fun W' => by have := ring_any s A n c0 held W'; rwa [hr] at this)
  have d1 : decide (E ≤ x + step) = false := decide_eq_false (by omega)
  have d3 : decide (65536 * (n : Int) ≤ x + step) = false := decide_eq_false (by omega)
  have fN : wrap64 (65536 * (n : Int)) = 65536 * (n : Int) := wrap_in (by omega) (by omega)
  have AQ := Lib.hid fun W' => at_any (x + step) false (by omega) (by omega) W'
  clear hr
  unfold Cur.cs
  go_enter Try.func64, Try.ntmps64
  go_upto_region 4 with (first
    | (refine wpList_load_row rfl 24 (.tmp 4) rfl (w.heap.size) rfl 24 _ (0, 0) _ P0.out Try.underlying24 rfl (S.i24 _ _ _ _) ?_)
    | (go_at_call 67; (with_reducible refine (RQ.out _).mono ?_); rintro e w1 ⟨rfl, hb1⟩; have P1 := Lib.hid (bkBelow P0.out hb1); have C1 := Lib.hid (bkBelow C0.out hb1); have Z1 := Lib.hid (bkBelow Z0.out hb1); have B1 := bdT B0 B0.size hb1; clear P0 C0 Z0))
  have k0 := (bkCell C1.out 0).trans (show _ = some (iv ps) from rfl)
  have k1 := (bkCell C1.out 1).trans (show _ = some (iv fr) from rfl)
  have k2 := (bkCell C1.out 2).trans (show _ = some (.bool false) from rfl)
  have p1 := (bkCell P1.out 1).trans (show _ = some (.slice A n c0) from rfl)
  go_wp2_with (first
    | (go_at_call 72; (with_reducible refine (AQ.out _).mono ?_); rintro e w2 ⟨rfl, hb2⟩; have P2 := Lib.hid (bkBelow P1.out hb2); have C2 := Lib.hid (bkBelow C1.out hb2); have Z2 := Lib.hid (bkBelow Z1.out hb2); have B2 := bdT B1 B1.size hb2; clear P1 C1 Z1)
    | (refine wpList_store_row rfl 26 (.tmp 8) (.tmp 140) rfl (w.heap.size + 1 + 1) (Cur.cs (stand (x + step, false, true))) rfl rfl 26 _ Z2.out (Cur.i26 _) (Cur.sz _ _) (Cur.one _) ?_))
  refine bodyPost_ret (results_cell_row rfl _ _ (w.heap.size + 1 + 1) 26 _ (0, 0) _ rfl (setRow_heap _ _ _ _ _ _ Z2.out) Try.underlying26 rfl (Cur.i26 _)) rfl ⟨rfl, below_setRow B2 (by omega) _⟩
set_option maxHeartbeats 8000000 in
set_option maxRecDepth 100000 in
theorem gone_f2o (s : S) (A : Option Addr) (n c0 : Nat) (ps fr step x sa E a b : Int) (held : Bool) (hr : rgS s held = (2, a, b)) (hn : n ≤ 4096) (f1 : wrap64 (wrap64 (ps * 65536) + fr) = x) (f4 : wrap64 (a * 65536) = sa) (f5 : wrap64 (b * 65536) = E) (x0 : 0 ≤ x) (x1 : x ≤ 300000000) (s0 : 0 ≤ step) (s1 : step ≤ 300000000) (S0 : 0 ≤ sa) (S1 : sa ≤ 300000000) (E1 : sa ≤ E) (E2 : E ≤ 300000000) (hc : x + step < E) (hz : 65536 * (n : Int) ≤ x + step) (w : World) : Calls Try.prog 64 #[.agg (s.cs A n c0), .agg (Cur.cs ⟨ps, fr, false, false⟩), iv step, .bool held] w fun e w' => e = .returned (.agg (Cur.cs Cur.over)) ∧ Below w.heap.size w w' := by
  have B0 : Below w.heap.size w (((w.alloc (Obj.cells (s.cs A n c0) 24)).alloc (Obj.cells #[iv ps, iv fr, .bool false, .bool false] 26)).alloc (Obj.cells #[iv 0, iv 0, .bool false, .bool false] 26)) := (((Below.refl _ _).alloc (Nat.le_refl _) _).alloc (by simp) _).alloc (by simp; omega) _
  have P0 := Lib.hid (show (((w.alloc (Obj.cells (s.cs A n c0) 24)).alloc (Obj.cells #[iv ps, iv fr, .bool false, .bool false] 26)).alloc (Obj.cells #[iv 0, iv 0, .bool false, .bool false] 26)).heap[w.heap.size]? = some (.cells (s.cs A n c0) 24 (0, 0)) from al3A w _ _ _)
  have C0 := Lib.hid (show (((w.alloc (Obj.cells (s.cs A n c0) 24)).alloc (Obj.cells #[iv ps, iv fr, .bool false, .bool false] 26)).alloc (Obj.cells #[iv 0, iv 0, .bool false, .bool false] 26)).heap[w.heap.size + 1]? = some (.cells (Cur.cs ⟨ps, fr, false, false⟩) 26 (0, 0)) from al3B w _ _ _)
  have Z0 := Lib.hid (show (((w.alloc (Obj.cells (s.cs A n c0) 24)).alloc (Obj.cells #[iv ps, iv fr, .bool false, .bool false] 26)).alloc (Obj.cells #[iv 0, iv 0, .bool false, .bool false] 26)).heap[w.heap.size + 1 + 1]? = some (.cells (Cur.cs Cur.zero) 26 (0, 0)) from al3C w _ _ _)
  have RQ := Lib.hid (show ∀ W' : World, Calls Try.prog 67 #[.agg (s.cs A n c0), .bool held] W' fun e w' => e = .returned (.tuple #[iv 2, iv a, iv b]) ∧ Below W'.heap.size W' w' from fun W' => by have := ring_any s A n c0 held W'; rwa [hr] at this)
  have d1 : decide (E ≤ x + step) = false := decide_eq_false (by omega)
  have d3 : decide (65536 * (n : Int) ≤ x + step) = true := decide_eq_true (by omega)
  have fN : wrap64 (65536 * (n : Int)) = 65536 * (n : Int) := wrap_in (by omega) (by omega)
  have OQ := Lib.hid fun W' => over_any W'
  clear hr
  unfold Cur.cs
  go_enter Try.func64, Try.ntmps64
  go_upto_region 4 with (first
    | (refine wpList_load_row rfl 24 (.tmp 4) rfl (w.heap.size) rfl 24 _ (0, 0) _ P0.out Try.underlying24 rfl (S.i24 _ _ _ _) ?_)
    | (go_at_call 67; (with_reducible refine (RQ.out _).mono ?_); rintro e w1 ⟨rfl, hb1⟩; have P1 := Lib.hid (bkBelow P0.out hb1); have C1 := Lib.hid (bkBelow C0.out hb1); have Z1 := Lib.hid (bkBelow Z0.out hb1); have B1 := bdT B0 B0.size hb1; clear P0 C0 Z0))
  have k0 := (bkCell C1.out 0).trans (show _ = some (iv ps) from rfl)
  have k1 := (bkCell C1.out 1).trans (show _ = some (iv fr) from rfl)
  have k2 := (bkCell C1.out 2).trans (show _ = some (.bool false) from rfl)
  have p1 := (bkCell P1.out 1).trans (show _ = some (.slice A n c0) from rfl)
  go_wp2_with (first
    | (go_at_call 71; (with_reducible refine (OQ.out _).mono ?_); rintro e w2 ⟨rfl, hb2⟩; have P2 := Lib.hid (bkBelow P1.out hb2); have C2 := Lib.hid (bkBelow C1.out hb2); have Z2 := Lib.hid (bkBelow Z1.out hb2); have B2 := bdT B1 B1.size hb2; clear P1 C1 Z1)
    | (refine wpList_store_row rfl 26 (.tmp 8) (.tmp 138) rfl (w.heap.size + 1 + 1) (Cur.cs Cur.over) rfl rfl 26 _ Z2.out (Cur.i26 _) (Cur.sz _ _) (Cur.one _) ?_))
  refine bodyPost_ret (results_cell_row rfl _ _ (w.heap.size + 1 + 1) 26 _ (0, 0) _ rfl (setRow_heap _ _ _ _ _ _ Z2.out) Try.underlying26 rfl (Cur.i26 _)) rfl ⟨rfl, below_setRow B2 (by omega) _⟩
set_option maxHeartbeats 8000000 in
set_option maxRecDepth 100000 in
theorem gone_f2s (s : S) (A : Option Addr) (n c0 : Nat) (ps fr step x sa E a b : Int) (held : Bool) (hr : rgS s held = (2, a, b)) (hn : n ≤ 4096) (f1 : wrap64 (wrap64 (ps * 65536) + fr) = x) (f4 : wrap64 (a * 65536) = sa) (f5 : wrap64 (b * 65536) = E) (x0 : 0 ≤ x) (x1 : x ≤ 300000000) (s0 : 0 ≤ step) (s1 : step ≤ 300000000) (S0 : 0 ≤ sa) (S1 : sa ≤ 300000000) (E1 : sa ≤ E) (E2 : E ≤ 300000000) (hc : x + step < E) (hz : x + step < 65536 * (n : Int)) (w : World) : Calls Try.prog 64 #[.agg (s.cs A n c0), .agg (Cur.cs ⟨ps, fr, false, false⟩), iv step, .bool held] w fun e w' => e = .returned (.agg (Cur.cs (stand (x + step, false, true)))) ∧ Below w.heap.size w w' := by
  have B0 : Below w.heap.size w (((w.alloc (Obj.cells (s.cs A n c0) 24)).alloc (Obj.cells #[iv ps, iv fr, .bool false, .bool false] 26)).alloc (Obj.cells #[iv 0, iv 0, .bool false, .bool false] 26)) := (((Below.refl _ _).alloc (Nat.le_refl _) _).alloc (by simp) _).alloc (by simp; omega) _
  have P0 := Lib.hid (show (((w.alloc (Obj.cells (s.cs A n c0) 24)).alloc (Obj.cells #[iv ps, iv fr, .bool false, .bool false] 26)).alloc (Obj.cells #[iv 0, iv 0, .bool false, .bool false] 26)).heap[w.heap.size]? = some (.cells (s.cs A n c0) 24 (0, 0)) from al3A w _ _ _)
  have C0 := Lib.hid (show (((w.alloc (Obj.cells (s.cs A n c0) 24)).alloc (Obj.cells #[iv ps, iv fr, .bool false, .bool false] 26)).alloc (Obj.cells #[iv 0, iv 0, .bool false, .bool false] 26)).heap[w.heap.size + 1]? = some (.cells (Cur.cs ⟨ps, fr, false, false⟩) 26 (0, 0)) from al3B w _ _ _)
  have Z0 := Lib.hid (show (((w.alloc (Obj.cells (s.cs A n c0) 24)).alloc (Obj.cells #[iv ps, iv fr, .bool false, .bool false] 26)).alloc (Obj.cells #[iv 0, iv 0, .bool false, .bool false] 26)).heap[w.heap.size + 1 + 1]? = some (.cells (Cur.cs Cur.zero) 26 (0, 0)) from al3C w _ _ _)
  have RQ := Lib.hid (show ∀ W' : World, Calls Try.prog 67 #[.agg (s.cs A n c0), .bool held] W' fun e w' => e = .returned (.tuple #[iv 2, iv a, iv b]) ∧ Below W'.heap.size W' w' from fun W' => by have := ring_any s A n c0 held W'; rwa [hr] at this)
  have d1 : decide (E ≤ x + step) = false := decide_eq_false (by omega)
  have d3 : decide (65536 * (n : Int) ≤ x + step) = false := decide_eq_false (by omega)
  have fN : wrap64 (65536 * (n : Int)) = 65536 * (n : Int) := wrap_in (by omega) (by omega)
  have AQ := Lib.hid fun W' => at_any (x + step) false (by omega) (by omega) W'
  clear hr
  unfold Cur.cs
  go_enter Try.func64, Try.ntmps64
  go_upto_region 4 with (first
    | (refine wpList_load_row rfl 24 (.tmp 4) rfl (w.heap.size) rfl 24 _ (0, 0) _ P0.out Try.underlying24 rfl (S.i24 _ _ _ _) ?_)
    | (go_at_call 67; (with_reducible refine (RQ.out _).mono ?_); rintro e w1 ⟨rfl, hb1⟩; have P1 := Lib.hid (bkBelow P0.out hb1); have C1 := Lib.hid (bkBelow C0.out hb1); have Z1 := Lib.hid (bkBelow Z0.out hb1); have B1 := bdT B0 B0.size hb1; clear P0 C0 Z0))
  have k0 := (bkCell C1.out 0).trans (show _ = some (iv ps) from rfl)
  have k1 := (bkCell C1.out 1).trans (show _ = some (iv fr) from rfl)
  have k2 := (bkCell C1.out 2).trans (show _ = some (.bool false) from rfl)
  have p1 := (bkCell P1.out 1).trans (show _ = some (.slice A n c0) from rfl)
  go_wp2_with (first
    | (go_at_call 72; (with_reducible refine (AQ.out _).mono ?_); rintro e w2 ⟨rfl, hb2⟩; have P2 := Lib.hid (bkBelow P1.out hb2); have C2 := Lib.hid (bkBelow C1.out hb2); have Z2 := Lib.hid (bkBelow Z1.out hb2); have B2 := bdT B1 B1.size hb2; clear P1 C1 Z1)
    | (refine wpList_store_row rfl 26 (.tmp 8) (.tmp 140) rfl (w.heap.size + 1 + 1) (Cur.cs (stand (x + step, false, true))) rfl rfl 26 _ Z2.out (Cur.i26 _) (Cur.sz _ _) (Cur.one _) ?_))
  refine bodyPost_ret (results_cell_row rfl _ _ (w.heap.size + 1 + 1) 26 _ (0, 0) _ rfl (setRow_heap _ _ _ _ _ _ Z2.out) Try.underlying26 rfl (Cur.i26 _)) rfl ⟨rfl, below_setRow B2 (by omega) _⟩
set_option maxHeartbeats 8000000 in
set_option maxRecDepth 100000 in
theorem gone_f1w (s : S) (A : Option Addr) (n c0 : Nat) (ps fr step x sa E a b : Int) (held : Bool) (hr : rgS s held = (1, a, b)) (hn : n ≤ 4096) (f1 : wrap64 (wrap64 (ps * 65536) + fr) = x) (f4 : wrap64 (a * 65536) = sa) (f5 : wrap64 (b * 65536) = E) (x0 : 0 ≤ x) (x1 : x ≤ 300000000) (s0 : 0 ≤ step) (s1 : step ≤ 300000000) (S0 : 0 ≤ sa) (S1 : sa ≤ 300000000) (E1 : sa ≤ E) (E2 : E ≤ 300000000) (hc : E ≤ x + step) (hW : 0 < (E - sa)) (w : World) : Calls Try.prog 64 #[.agg (s.cs A n c0), .agg (Cur.cs ⟨ps, fr, false, false⟩), iv step, .bool held] w fun e w' => e = .returned (.agg (Cur.cs (stand (sa + (x + step - sa) % (E - sa), false, true)))) ∧ Below w.heap.size w w' := by
  have B0 : Below w.heap.size w (((w.alloc (Obj.cells (s.cs A n c0) 24)).alloc (Obj.cells #[iv ps, iv fr, .bool false, .bool false] 26)).alloc (Obj.cells #[iv 0, iv 0, .bool false, .bool false] 26)) := (((Below.refl _ _).alloc (Nat.le_refl _) _).alloc (by simp) _).alloc (by simp; omega) _
  have P0 := Lib.hid (show (((w.alloc (Obj.cells (s.cs A n c0) 24)).alloc (Obj.cells #[iv ps, iv fr, .bool false, .bool false] 26)).alloc (Obj.cells #[iv 0, iv 0, .bool false, .bool false] 26)).heap[w.heap.size]? = some (.cells (s.cs A n c0) 24 (0, 0)) from al3A w _ _ _)
  have C0 := Lib.hid (show (((w.alloc (Obj.cells (s.cs A n c0) 24)).alloc (Obj.cells #[iv ps, iv fr, .bool false, .bool false] 26)).alloc (Obj.cells #[iv 0, iv 0, .bool false, .bool false] 26)).heap[w.heap.size + 1]? = some (.cells (Cur.cs ⟨ps, fr, false, false⟩) 26 (0, 0)) from al3B w _ _ _)
  have Z0 := Lib.hid (show (((w.alloc (Obj.cells (s.cs A n c0) 24)).alloc (Obj.cells #[iv ps, iv fr, .bool false, .bool false] 26)).alloc (Obj.cells #[iv 0, iv 0, .bool false, .bool false] 26)).heap[w.heap.size + 1 + 1]? = some (.cells (Cur.cs Cur.zero) 26 (0, 0)) from al3C w _ _ _)
  have RQ := Lib.hid (show ∀ W' : World, Calls Try.prog 67 #[.agg (s.cs A n c0), .bool held] W' fun e w' => e = .returned (.tuple #[iv 1, iv a, iv b]) ∧ Below W'.heap.size W' w' from fun W' => by have := ring_any s A n c0 held W'; rwa [hr] at this)
  have d1 : decide (E ≤ x + step) = true := decide_eq_true (by omega)
  have MQ := Lib.hid fun W' => rmod_any (x + step - sa) (E - sa) (by omega) (by omega) hW (by omega) W'
  have q2 := Int.emod_nonneg (x + step - sa) (show (E - sa) ≠ 0 by omega)
  have q3 := Int.emod_lt_of_pos (x + step - sa) hW
  obtain ⟨v, hv⟩ : ∃ v, (x + step - sa) % (E - sa) = v := ⟨_, rfl⟩
  rw [hv] at q2 q3 MQ ⊢
  have AQ := Lib.hid fun W' => at_any (sa + v) false (by omega) (by omega) W'
  clear hv
  clear hr
  unfold Cur.cs
  go_enter Try.func64, Try.ntmps64
  go_upto_region 4 with (first
    | (refine wpList_load_row rfl 24 (.tmp 4) rfl (w.heap.size) rfl 24 _ (0, 0) _ P0.out Try.underlying24 rfl (S.i24 _ _ _ _) ?_)
    | (go_at_call 67; (with_reducible refine (RQ.out _).mono ?_); rintro e w1 ⟨rfl, hb1⟩; have P1 := Lib.hid (bkBelow P0.out hb1); have C1 := Lib.hid (bkBelow C0.out hb1); have Z1 := Lib.hid (bkBelow Z0.out hb1); have B1 := bdT B0 B0.size hb1; clear P0 C0 Z0))
  have k0 := (bkCell C1.out 0).trans (show _ = some (iv ps) from rfl)
  have k1 := (bkCell C1.out 1).trans (show _ = some (iv fr) from rfl)
  have k2 := (bkCell C1.out 2).trans (show _ = some (.bool false) from rfl)
  have p1 := (bkCell P1.out 1).trans (show _ = some (.slice A n c0) from rfl)
  go_wp2_with (first
    | (go_at_call 108; (with_reducible refine (MQ.out _).mono ?_); rintro e w7 ⟨rfl, rfl⟩)
    | (go_at_call 72; (with_reducible refine (AQ.out _).mono ?_); rintro e w2 ⟨rfl, hb2⟩; have P2 := Lib.hid (bkBelow P1.out hb2); have C2 := Lib.hid (bkBelow C1.out hb2); have Z2 := Lib.hid (bkBelow Z1.out hb2); have B2 := bdT B1 B1.size hb2; clear P1 C1 Z1)
    | (refine wpList_store_row rfl 26 (.tmp 8) (.tmp 116) rfl (w.heap.size + 1 + 1) (Cur.cs (stand (sa + v, false, true))) rfl rfl 26 _ Z2.out (Cur.i26 _) (Cur.sz _ _) (Cur.one _) ?_))
  refine bodyPost_ret (results_cell_row rfl _ _ (w.heap.size + 1 + 1) 26 _ (0, 0) _ rfl (setRow_heap _ _ _ _ _ _ Z2.out) Try.underlying26 rfl (Cur.i26 _)) rfl ⟨rfl, below_setRow B2 (by omega) _⟩
set_option maxHeartbeats 8000000 in
set_option maxRecDepth 100000 in
theorem gone_f2t (s : S) (A : Option Addr) (n c0 : Nat) (ps fr step x sa E a b : Int) (held : Bool) (hr : rgS s held = (2, a, b)) (hn : n ≤ 4096) (f1 : wrap64 (wrap64 (ps * 65536) + fr) = x) (f4 : wrap64 (a * 65536) = sa) (f5 : wrap64 (b * 65536) = E) (x0 : 0 ≤ x) (x1 : x ≤ 300000000) (s0 : 0 ≤ step) (s1 : step ≤ 300000000) (S0 : 0 ≤ sa) (S1 : sa ≤ 300000000) (E1 : sa ≤ E) (E2 : E ≤ 300000000) (hc : E ≤ x + step) (hW : 0 < (E - sa)) (w : World) : Calls Try.prog 64 #[.agg (s.cs A n c0), .agg (Cur.cs ⟨ps, fr, false, false⟩), iv step, .bool held] w fun e w' => e = .returned (.agg (Cur.cs (stand (if (x + step - sa) % (2 * (E - sa)) < (E - sa) then (sa + (x + step - sa) % (2 * (E - sa)), false, true) else (sa + 2 * (E - sa) - 1 - (x + step - sa) % (2 * (E - sa)), true, true))))) ∧ Below w.heap.size w w' := by
  have B0 : Below w.heap.size w (((w.alloc (Obj.cells (s.cs A n c0) 24)).alloc (Obj.cells #[iv ps, iv fr, .bool false, .bool false] 26)).alloc (Obj.cells #[iv 0, iv 0, .bool false, .bool false] 26)) := (((Below.refl _ _).alloc (Nat.le_refl _) _).alloc (by simp) _).alloc (by simp; omega) _
  have P0 := Lib.hid (show (((w.alloc (Obj.cells (s.cs A n c0) 24)).alloc (Obj.cells #[iv ps, iv fr, .bool false, .bool false] 26)).alloc (Obj.cells #[iv 0, iv 0, .bool false, .bool false] 26)).heap[w.heap.size]? = some (.cells (s.cs A n c0) 24 (0, 0)) from al3A w _ _ _)
  have C0 := Lib.hid (show (((w.alloc (Obj.cells (s.cs A n c0) 24)).alloc (Obj.cells #[iv ps, iv fr, .bool false, .bool false] 26)).alloc (Obj.cells #[iv 0, iv 0, .bool false, .bool false] 26)).heap[w.heap.size + 1]? = some (.cells (Cur.cs ⟨ps, fr, false, false⟩) 26 (0, 0)) from al3B w _ _ _)
  have Z0 := Lib.hid (show (((w.alloc (Obj.cells (s.cs A n c0) 24)).alloc (Obj.cells #[iv ps, iv fr, .bool false, .bool false] 26)).alloc (Obj.cells #[iv 0, iv 0, .bool false, .bool false] 26)).heap[w.heap.size + 1 + 1]? = some (.cells (Cur.cs Cur.zero) 26 (0, 0)) from al3C w _ _ _)
  have RQ := Lib.hid (show ∀ W' : World, Calls Try.prog 67 #[.agg (s.cs A n c0), .bool held] W' fun e w' => e = .returned (.tuple #[iv 2, iv a, iv b]) ∧ Below W'.heap.size W' w' from fun W' => by have := ring_any s A n c0 held W'; rwa [hr] at this)
  have d1 : decide (E ≤ x + step) = true := decide_eq_true (by omega)
  have TQ := Lib.hid fun W' => turn_any sa (E - sa) (x + step - sa) (by omega) (by omega) hW (by omega) (by omega) (by omega) W'
  obtain ⟨R, hR⟩ : ∃ R, (stand (if (x + step - sa) % (2 * (E - sa)) < (E - sa) then (sa + (x + step - sa) % (2 * (E - sa)), false, true) else (sa + 2 * (E - sa) - 1 - (x + step - sa) % (2 * (E - sa)), true, true))) = R := ⟨_, rfl⟩
  rw [hR] at TQ ⊢
  clear hR
  clear hr
  unfold Cur.cs
  go_enter Try.func64, Try.ntmps64
  go_upto_region 4 with (first
    | (refine wpList_load_row rfl 24 (.tmp 4) rfl (w.heap.size) rfl 24 _ (0, 0) _ P0.out Try.underlying24 rfl (S.i24 _ _ _ _) ?_)
    | (go_at_call 67; (with_reducible refine (RQ.out _).mono ?_); rintro e w1 ⟨rfl, hb1⟩; have P1 := Lib.hid (bkBelow P0.out hb1); have C1 := Lib.hid (bkBelow C0.out hb1); have Z1 := Lib.hid (bkBelow Z0.out hb1); have B1 := bdT B0 B0.size hb1; clear P0 C0 Z0))
  have k0 := (bkCell C1.out 0).trans (show _ = some (iv ps) from rfl)
  have k1 := (bkCell C1.out 1).trans (show _ = some (iv fr) from rfl)
  have k2 := (bkCell C1.out 2).trans (show _ = some (.bool false) from rfl)
  have p1 := (bkCell P1.out 1).trans (show _ = some (.slice A n c0) from rfl)
  go_wp2_with (first
    | (go_at_call 109; (with_reducible refine (TQ.out _).mono ?_); rintro e w2 ⟨rfl, hb2⟩; have P2 := Lib.hid (bkBelow P1.out hb2); have C2 := Lib.hid (bkBelow C1.out hb2); have Z2 := Lib.hid (bkBelow Z1.out hb2); have B2 := bdT B1 B1.size hb2; clear P1 C1 Z1)
    | (refine wpList_store_row rfl 26 (.tmp 8) (.tmp 130) rfl (w.heap.size + 1 + 1) (Cur.cs R) rfl rfl 26 _ Z2.out (Cur.i26 _) (Cur.sz _ _) (Cur.one _) ?_))
  refine bodyPost_ret (results_cell_row rfl _ _ (w.heap.size + 1 + 1) 26 _ (0, 0) _ rfl (setRow_heap _ _ _ _ _ _ Z2.out) Try.underlying26 rfl (Cur.i26 _)) rfl ⟨rfl, below_setRow B2 (by omega) _⟩
set_option maxHeartbeats 4000000 in
set_option maxRecDepth 100000 in
theorem gone_done (s : S) (A : Option Addr) (n c0 : Nat) (ps fr step : Int) (bk held : Bool) (w : World) : Calls Try.prog 64 #[.agg (s.cs A n c0), .agg (Cur.cs ⟨ps, fr, bk, true⟩), iv step, .bool held] w fun e w' => e = .returned (.agg (Cur.cs ⟨ps, fr, bk, true⟩)) ∧ Below w.heap.size w w' := by
  unfold Cur.cs
  go_enter Try.func64, Try.ntmps64
  go_wp2
  exact bodyPost_ret (results_cell_row rfl _ _ (w.heap.size + 1 + 1) 26 _ (0, 0) _ rfl (al3C _ _ _ _) Try.underlying26 rfl (by kernel_rfl)) rfl ⟨rfl, (((Below.refl _ _).alloc (Nat.le_refl _) _).alloc (by simp) _).alloc (by simp; omega) _⟩
end Go.Proofs.Ytnmoiolddfboiaa.SX

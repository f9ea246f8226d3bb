/- A sample made louder, as the reference does it. -/
import Derived.Test.YtnmoiolddfboiaaSxZ
import Derived.Test.YtnmoiolddfboiaaSyA
namespace Go.Proofs.Ytnmoiolddfboiaa.SX
open Go.RowKit Go.Proofs.YtnmoiolddfboiaaW.PrintLast Go.Proofs.Ytnmoiolddfboiaa.TX Go.Proofs.Ytnmoiolddfboiaa.Cu
set_option linter.unusedVariables false
set_option linter.unusedSimpArgs false
set_option maxHeartbeats 4000000 in
set_option maxRecDepth 100000 in
theorem times_any (x num den : Int) (hx : -32768 ≤ x ∧ x ≤ 32767) (hn : -10000 ≤ num ∧ num ≤ 10000) (hd : 1 ≤ den ∧ den ≤ 10000) (w : World) : Calls Try.prog 81 #[iv x, iv num, iv den] w fun e w' => e = .returned (iv (nr (x * num) den)) ∧ w = w' := by
  have hb := mulB (a := x) (b := num) (A := 32768) (B := 10000) ⟨hx.1, by omega⟩ hn
  have f1 : wrap64 (x * num) = x * num := wrap_in (by omega) (by omega)
  obtain ⟨y, hy⟩ : ∃ y, x * num = y := ⟨_, rfl⟩
  rw [hy] at hb ⊢
  replace f1 := f1.trans hy
  have h0 : -1000000000000000 ≤ y := by omega
  have h1 : y ≤ 1000000000000000 := by omega
  have hb1 : 0 < den := by omega
  have hb2 : den ≤ 10000 := by omega
  clear hb hx hn hd hy
  rcases Int.lt_or_le y 0 with ha | ha
  · have q0 : 0 ≤ (-2 * y + den) / (2 * den) := Int.ediv_nonneg (by omega) (by omega)
    have q1 : (-2 * y + den) / (2 * den) ≤ -2 * y + den := Int.ediv_le_self _ (by omega)
    have e : nr y den = -((-2 * y + den) / (2 * den)) := if_pos ha
    rw [e]
    clear e
    go_enter Try.func81, Try.ntmps81
    go_upto_region 2 with (fail)
    rw [f1]
    clear f1
    go_wp2
    go_ret
    exact ⟨rfl, rfl⟩
  · have q0 : 0 ≤ (2 * y + den) / (2 * den) := Int.ediv_nonneg (by omega) (by omega)
    have q1 : (2 * y + den) / (2 * den) ≤ 2 * y + den := Int.ediv_le_self _ (by omega)
    have e : nr y den = (2 * y + den) / (2 * den) := if_neg (by omega)
    rw [e]
    clear e
    go_enter Try.func81, Try.ntmps81
    go_upto_region 2 with (fail)
    rw [f1]
    clear f1
    go_wp2
    go_ret
    exact ⟨rfl, rfl⟩
set_option maxHeartbeats 4000000 in
set_option maxRecDepth 100000 in
theorem rclamp_any (x h : Int) (h0 : 1 ≤ h) (h1 : h ≤ 100000) (w : World) : Calls Try.prog 80 #[iv x, iv (-h), iv (h - 1)] w fun e w' => e = .returned (iv (clp h x)) ∧ w = w' := by
  by_cases c0 : x < -h
  · have e : clp h x = -h := if_pos c0
    have d0 : decide (x < -h) = true := decide_eq_true c0
    rw [e]
    clear e
    go_enter Try.func80, Try.ntmps80
    go_wp2
    go_ret
    exact ⟨rfl, rfl⟩
  · have d0 : decide (x < -h) = false := decide_eq_false c0
    by_cases c1 : h - 1 < x
    · have e : clp h x = h - 1 := by unfold clp; rw [if_neg c0, if_pos c1]
      have d1 : decide (h - 1 < x) = true := decide_eq_true c1
      rw [e]
      clear e
      go_enter Try.func80, Try.ntmps80
      go_wp2
      go_ret
      exact ⟨rfl, rfl⟩
    · have e : clp h x = x := by unfold clp; rw [if_neg c0, if_neg c1]
      have d1 : decide (h - 1 < x) = false := decide_eq_false c1
      rw [e]
      clear e
      go_enter Try.func80, Try.ntmps80
      go_wp2
      go_ret
      exact ⟨rfl, rfl⟩
set_option maxHeartbeats 16000000 in
set_option maxRecDepth 100000 in
theorem ramp_bad (s : S) (A : Option Addr) (n c0 b o : Nat) (xs : Nat → Int) (num den : Int) (hv : vS s n xs = false) (hn : n ≤ 9223372036854775807) (hc0 : n ≤ c0) (w : World) (hA : DataAt w A n b o xs) : Gives 38 #[.agg (s.cs A n c0), iv num, iv den] w S.zero 0 (fun _ => 0) 1 := by
  unfold Gives
  have H0 := Lib.hid (show ((w.alloc (Obj.cells (s.cs A n c0) 24)).alloc (Obj.cells #[Value.string ⟨#[]⟩, Value.slice none 0 0, iv 0, iv 0, iv 0, iv 0, iv 0, iv 0, iv 0, iv 0, iv 0, iv 0, iv 0] 24)).heap[w.heap.size + 1]? = some (.cells (S.zero.cs none 0 0) 24 (0, 0)) from heap_alloc2_new w (Obj.cells (s.cs A n c0) 24) (Obj.cells #[Value.string ⟨#[]⟩, Value.slice none 0 0, iv 0, iv 0, iv 0, iv 0, iv 0, iv 0, iv 0, iv 0, iv 0, iv 0, iv 0] 24))
  have B0 : Below w.heap.size w ((w.alloc (Obj.cells (s.cs A n c0) 24)).alloc (Obj.cells #[Value.string ⟨#[]⟩, Value.slice none 0 0, iv 0, iv 0, iv 0, iv 0, iv 0, iv 0, iv 0, iv 0, iv 0, iv 0, iv 0] 24)) := ((Below.refl _ _).alloc (Nat.le_refl _) _).alloc (by simp) _
  have P0 := Lib.hid (show ((w.alloc (Obj.cells (s.cs A n c0) 24)).alloc (Obj.cells #[Value.string ⟨#[]⟩, Value.slice none 0 0, iv 0, iv 0, iv 0, iv 0, iv 0, iv 0, iv 0, iv 0, iv 0, iv 0, iv 0] 24)).heap[w.heap.size]? = some (.cells (s.cs A n c0) 24 (0, 0)) from heap_alloc2_old w _ _)
  have D0 := Lib.hid (hA.later B0)
  have VC := Lib.hid (show ∀ (W : World), DataAt W A n b o xs → Calls Try.prog 25 #[.agg (s.cs A n c0)] W fun e w' => e = .returned (.bool false) ∧ Below W.heap.size W w' from fun W h => by have := rvalid_any s A n c0 b o xs hn hc0 W h; rwa [hv] at this)
  clear hA hv
  go_enter Try.func38, Try.ntmps38
  go_wp2_with (first
    | (refine wpList_load_row rfl 24 (.tmp 3) rfl (w.heap.size) rfl 24 _ (0, 0) _ P0.out Try.underlying24 rfl (S.i24 _ _ _ _) ?_)
    | (go_at_call 25; (with_reducible refine (VC.out _ D0.out).mono ?_); rintro e w1 ⟨rfl, hb1⟩; have P1 := Lib.hid (bkBelow P0.out hb1); have H1 := Lib.hid (bkBelow H0.out hb1); have D1 := Lib.hid (D0.out.later hb1); have B1 := bdT B0 B0.size hb1)
    | (refine wpBuild0 rfl 24 rfl (S.zero.cs none 0 0) built24 ?_)
    | (refine wpList_store_row rfl 24 (.tmp 6) (.tmp 15) rfl (w.heap.size + 1) (S.zero.cs none 0 0) rfl rfl 24 _ H1.out (S.i24 _ _ _ _) (S.sz S.zero S.zero none none 0 0 0 0) (S.one _ _ _ _) ?_))
  refine bodyPost_ret (res_ct rfl _ _ (w.heap.size + 1) 24 _ (0, 0) _ rfl (setRow_heap _ _ _ _ _ _ H1.out) Try.underlying24 rfl (S.i24 _ _ _ _)) rfl ⟨none, 0, rfl, own0, below_setRow B1 (by omega) _⟩
set_option maxHeartbeats 16000000 in
set_option maxRecDepth 100000 in
theorem ramp_rng1 (s : S) (A : Option Addr) (n c0 b o : Nat) (xs : Nat → Int) (num den : Int) (hv : vS s n xs = true) (h1 : num < -10000) (hn : n ≤ 9223372036854775807) (hc0 : n ≤ c0) (w : World) (hA : DataAt w A n b o xs) : Gives 38 #[.agg (s.cs A n c0), iv num, iv den] w S.zero 0 (fun _ => 0) 5 := by
  unfold Gives
  have H0 := Lib.hid (show ((w.alloc (Obj.cells (s.cs A n c0) 24)).alloc (Obj.cells #[Value.string ⟨#[]⟩, Value.slice none 0 0, iv 0, iv 0, iv 0, iv 0, iv 0, iv 0, iv 0, iv 0, iv 0, iv 0, iv 0] 24)).heap[w.heap.size + 1]? = some (.cells (S.zero.cs none 0 0) 24 (0, 0)) from heap_alloc2_new w (Obj.cells (s.cs A n c0) 24) (Obj.cells #[Value.string ⟨#[]⟩, Value.slice none 0 0, iv 0, iv 0, iv 0, iv 0, iv 0, iv 0, iv 0, iv 0, iv 0, iv 0, iv 0] 24))
  have B0 : Below w.heap.size w ((w.alloc (Obj.cells (s.cs A n c0) 24)).alloc (Obj.cells #[Value.string ⟨#[]⟩, Value.slice none 0 0, iv 0, iv 0, iv 0, iv 0, iv 0, iv 0, iv 0, iv 0, iv 0, iv 0, iv 0] 24)) := ((Below.refl _ _).alloc (Nat.le_refl _) _).alloc (by simp) _
  have P0 := Lib.hid (show ((w.alloc (Obj.cells (s.cs A n c0) 24)).alloc (Obj.cells #[Value.string ⟨#[]⟩, Value.slice none 0 0, iv 0, iv 0, iv 0, iv 0, iv 0, iv 0, iv 0, iv 0, iv 0, iv 0, iv 0] 24)).heap[w.heap.size]? = some (.cells (s.cs A n c0) 24 (0, 0)) from heap_alloc2_old w _ _)
  have D0 := Lib.hid (hA.later B0)
  have VC := Lib.hid (show ∀ (W : World), DataAt W A n b o xs → Calls Try.prog 25 #[.agg (s.cs A n c0)] W fun e w' => e = .returned (.bool true) ∧ Below W.heap.size W w' from fun W h => by have := rvalid_any s A n c0 b o xs hn hc0 W h; rwa [hv] at this)
  have d1 : decide (num < -10000) = true := decide_eq_true (by omega)
  clear hA hv
  go_enter Try.func38, Try.ntmps38
  go_wp2_with (first
    | (refine wpList_load_row rfl 24 (.tmp 3) rfl (w.heap.size) rfl 24 _ (0, 0) _ P0.out Try.underlying24 rfl (S.i24 _ _ _ _) ?_)
    | (go_at_call 25; (with_reducible refine (VC.out _ D0.out).mono ?_); rintro e w1 ⟨rfl, hb1⟩; have P1 := Lib.hid (bkBelow P0.out hb1); have H1 := Lib.hid (bkBelow H0.out hb1); have D1 := Lib.hid (D0.out.later hb1); have B1 := bdT B0 B0.size hb1)
    | (refine wpBuild0 rfl 24 rfl (S.zero.cs none 0 0) built24 ?_)
    | (refine wpList_store_row rfl 24 (.tmp 6) (.tmp 31) rfl (w.heap.size + 1) (S.zero.cs none 0 0) rfl rfl 24 _ H1.out (S.i24 _ _ _ _) (S.sz S.zero S.zero none none 0 0 0 0) (S.one _ _ _ _) ?_))
  refine bodyPost_ret (res_ct rfl _ _ (w.heap.size + 1) 24 _ (0, 0) _ rfl (setRow_heap _ _ _ _ _ _ H1.out) Try.underlying24 rfl (S.i24 _ _ _ _)) rfl ⟨none, 0, rfl, own0, below_setRow B1 (by omega) _⟩
set_option maxHeartbeats 16000000 in
set_option maxRecDepth 100000 in
theorem ramp_rng2 (s : S) (A : Option Addr) (n c0 b o : Nat) (xs : Nat → Int) (num den : Int) (hv : vS s n xs = true) (h1 : -10000 ≤ num) (h2 : 10000 < num) (hn : n ≤ 9223372036854775807) (hc0 : n ≤ c0) (w : World) (hA : DataAt w A n b o xs) : Gives 38 #[.agg (s.cs A n c0), iv num, iv den] w S.zero 0 (fun _ => 0) 5 := by
  unfold Gives
  have H0 := Lib.hid (show ((w.alloc (Obj.cells (s.cs A n c0) 24)).alloc (Obj.cells #[Value.string ⟨#[]⟩, Value.slice none 0 0, iv 0, iv 0, iv 0, iv 0, iv 0, iv 0, iv 0, iv 0, iv 0, iv 0, iv 0] 24)).heap[w.heap.size + 1]? = some (.cells (S.zero.cs none 0 0) 24 (0, 0)) from heap_alloc2_new w (Obj.cells (s.cs A n c0) 24) (Obj.cells #[Value.string ⟨#[]⟩, Value.slice none 0 0, iv 0, iv 0, iv 0, iv 0, iv 0, iv 0, iv 0, iv 0, iv 0, iv 0, iv 0] 24))
  have B0 : Below w.heap.size w ((w.alloc (Obj.cells (s.cs A n c0) 24)).alloc (Obj.cells #[Value.string ⟨#[]⟩, Value.slice none 0 0, iv 0, iv 0, iv 0, iv 0, iv 0, iv 0, iv 0, iv 0, iv 0, iv 0, iv 0] 24)) := ((Below.refl _ _).alloc (Nat.le_refl _) _).alloc (by simp) _
  have P0 := Lib.hid (show ((w.alloc (Obj.cells (s.cs A n c0) 24)).alloc (Obj.cells #[Value.string ⟨#[]⟩, Value.slice none 0 0, iv 0, iv 0, iv 0, iv 0, iv 0, iv 0, iv 0, iv 0, iv 0, iv 0, iv 0] 24)).heap[w.heap.size]? = some (.cells (s.cs A n c0) 24 (0, 0)) from heap_alloc2_old w _ _)
  have D0 := Lib.hid (hA.later B0)
  have VC := Lib.hid (show ∀ (W : World), DataAt W A n b o xs → Calls Try.prog 25 #[.agg (s.cs A n c0)] W fun e w' => e = .returned (.bool true) ∧ Below W.heap.size W w' from fun W h => by have := rvalid_any s A n c0 b o xs hn hc0 W h; rwa [hv] at this)
  have d1 : decide (num < -10000) = false := decide_eq_false (by omega)
  have d2 : decide (10000 < num) = true := decide_eq_true (by omega)
  clear hA hv
  go_enter Try.func38, Try.ntmps38
  go_wp2_with (first
    | (refine wpList_load_row rfl 24 (.tmp 3) rfl (w.heap.size) rfl 24 _ (0, 0) _ P0.out Try.underlying24 rfl (S.i24 _ _ _ _) ?_)
    | (go_at_call 25; (with_reducible refine (VC.out _ D0.out).mono ?_); rintro e w1 ⟨rfl, hb1⟩; have P1 := Lib.hid (bkBelow P0.out hb1); have H1 := Lib.hid (bkBelow H0.out hb1); have D1 := Lib.hid (D0.out.later hb1); have B1 := bdT B0 B0.size hb1)
    | (refine wpBuild0 rfl 24 rfl (S.zero.cs none 0 0) built24 ?_)
    | (refine wpList_store_row rfl 24 (.tmp 6) (.tmp 31) rfl (w.heap.size + 1) (S.zero.cs none 0 0) rfl rfl 24 _ H1.out (S.i24 _ _ _ _) (S.sz S.zero S.zero none none 0 0 0 0) (S.one _ _ _ _) ?_))
  refine bodyPost_ret (res_ct rfl _ _ (w.heap.size + 1) 24 _ (0, 0) _ rfl (setRow_heap _ _ _ _ _ _ H1.out) Try.underlying24 rfl (S.i24 _ _ _ _)) rfl ⟨none, 0, rfl, own0, below_setRow B1 (by omega) _⟩
set_option maxHeartbeats 16000000 in
set_option maxRecDepth 100000 in
theorem ramp_rng3 (s : S) (A : Option Addr) (n c0 b o : Nat) (xs : Nat → Int) (num den : Int) (hv : vS s n xs = true) (h1 : -10000 ≤ num) (h2 : num ≤ 10000) (h3 : den < 1) (hn : n ≤ 9223372036854775807) (hc0 : n ≤ c0) (w : World) (hA : DataAt w A n b o xs) : Gives 38 #[.agg (s.cs A n c0), iv num, iv den] w S.zero 0 (fun _ => 0) 5 := by
  unfold Gives
  have H0 := Lib.hid (show ((w.alloc (Obj.cells (s.cs A n c0) 24)).alloc (Obj.cells #[Value.string ⟨#[]⟩, Value.slice none 0 0, iv 0, iv 0, iv 0, iv 0, iv 0, iv 0, iv 0, iv 0, iv 0, iv 0, iv 0] 24)).heap[w.heap.size + 1]? = some (.cells (S.zero.cs none 0 0) 24 (0, 0)) from heap_alloc2_new w (Obj.cells (s.cs A n c0) 24) (Obj.cells #[Value.string ⟨#[]⟩, Value.slice none 0 0, iv 0, iv 0, iv 0, iv 0, iv 0, iv 0, iv 0, iv 0, iv 0, iv 0, iv 0] 24))
  have B0 : Below w.heap.size w ((w.alloc (Obj.cells (s.cs A n c0) 24)).alloc (Obj.cells #[Value.string ⟨#[]⟩, Value.slice none 0 0, iv 0, iv 0, iv 0, iv 0, iv 0, iv 0, iv 0, iv 0, iv 0, iv 0, iv 0] 24)) := ((Below.refl _ _).alloc (Nat.le_refl _) _).alloc (by simp) _
  have P0 := Lib.hid (show ((w.alloc (Obj.cells (s.cs A n c0) 24)).alloc (Obj.cells #[Value.string ⟨#[]⟩, Value.slice none 0 0, iv 0, iv 0, iv 0, iv 0, iv 0, iv 0, iv 0, iv 0, iv 0, iv 0, iv 0] 24)).heap[w.heap.size]? = some (.cells (s.cs A n c0) 24 (0, 0)) from heap_alloc2_old w _ _)
  have D0 := Lib.hid (hA.later B0)
  have VC := Lib.hid (show ∀ (W : World), DataAt W A n b o xs → Calls Try.prog 25 #[.agg (s.cs A n c0)] W fun e w' => e = .returned (.bool true) ∧ Below W.heap.size W w' from fun W h => by have := rvalid_any s A n c0 b o xs hn hc0 W h; rwa [hv] at this)
  have d1 : decide (num < -10000) = false := decide_eq_false (by omega)
  have d2 : decide (10000 < num) = false := decide_eq_false (by omega)
  have d3 : decide (den < 1) = true := decide_eq_true (by omega)
  clear hA hv
  go_enter Try.func38, Try.ntmps38
  go_wp2_with (first
    | (refine wpList_load_row rfl 24 (.tmp 3) rfl (w.heap.size) rfl 24 _ (0, 0) _ P0.out Try.underlying24 rfl (S.i24 _ _ _ _) ?_)
    | (go_at_call 25; (with_reducible refine (VC.out _ D0.out).mono ?_); rintro e w1 ⟨rfl, hb1⟩; have P1 := Lib.hid (bkBelow P0.out hb1); have H1 := Lib.hid (bkBelow H0.out hb1); have D1 := Lib.hid (D0.out.later hb1); have B1 := bdT B0 B0.size hb1)
    | (refine wpBuild0 rfl 24 rfl (S.zero.cs none 0 0) built24 ?_)
    | (refine wpList_store_row rfl 24 (.tmp 6) (.tmp 31) rfl (w.heap.size + 1) (S.zero.cs none 0 0) rfl rfl 24 _ H1.out (S.i24 _ _ _ _) (S.sz S.zero S.zero none none 0 0 0 0) (S.one _ _ _ _) ?_))
  refine bodyPost_ret (res_ct rfl _ _ (w.heap.size + 1) 24 _ (0, 0) _ rfl (setRow_heap _ _ _ _ _ _ H1.out) Try.underlying24 rfl (S.i24 _ _ _ _)) rfl ⟨none, 0, rfl, own0, below_setRow B1 (by omega) _⟩
set_option maxHeartbeats 16000000 in
set_option maxRecDepth 100000 in
theorem ramp_rng4 (s : S) (A : Option Addr) (n c0 b o : Nat) (xs : Nat → Int) (num den : Int) (hv : vS s n xs = true) (h1 : -10000 ≤ num) (h2 : num ≤ 10000) (h3 : 1 ≤ den) (h4 : 10000 < den) (hn : n ≤ 9223372036854775807) (hc0 : n ≤ c0) (w : World) (hA : DataAt w A n b o xs) : Gives 38 #[.agg (s.cs A n c0), iv num, iv den] w S.zero 0 (fun _ => 0) 5 := by
  unfold Gives
  have H0 := Lib.hid (show ((w.alloc (Obj.cells (s.cs A n c0) 24)).alloc (Obj.cells #[Value.string ⟨#[]⟩, Value.slice none 0 0, iv 0, iv 0, iv 0, iv 0, iv 0, iv 0, iv 0, iv 0, iv 0, iv 0, iv 0] 24)).heap[w.heap.size + 1]? = some (.cells (S.zero.cs none 0 0) 24 (0, 0)) from heap_alloc2_new w (Obj.cells (s.cs A n c0) 24) (Obj.cells #[Value.string ⟨#[]⟩, Value.slice none 0 0, iv 0, iv 0, iv 0, iv 0, iv 0, iv 0, iv 0, iv 0, iv 0, iv 0, iv 0] 24))
  have B0 : Below w.heap.size w ((w.alloc (Obj.cells (s.cs A n c0) 24)).alloc (Obj.cells #[Value.string ⟨#[]⟩, Value.slice none 0 0, iv 0, iv 0, iv 0, iv 0, iv 0, iv 0, iv 0, iv 0, iv 0, iv 0, iv 0] 24)) := ((Below.refl _ _).alloc (Nat.le_refl _) _).alloc (by simp) _
  have P0 := Lib.hid (show ((w.alloc (Obj.cells (s.cs A n c0) 24)).alloc (Obj.cells #[Value.string ⟨#[]⟩, Value.slice none 0 0, iv 0, iv 0, iv 0, iv 0, iv 0, iv 0, iv 0, iv 0, iv 0, iv 0, iv 0] 24)).heap[w.heap.size]? = some (.cells (s.cs A n c0) 24 (0, 0)) from heap_alloc2_old w _ _)
  have D0 := Lib.hid (hA.later B0)
  have VC := Lib.hid (show ∀ (W : World), DataAt W A n b o xs → Calls Try.prog 25 #[.agg (s.cs A n c0)] W fun e w' => e = .returned (.bool true) ∧ Below W.heap.size W w' from fun W h => by have := rvalid_any s A n c0 b o xs hn hc0 W h; rwa [hv] at this)
  have d1 : decide (num < -10000) = false := decide_eq_false (by omega)
  have d2 : decide (10000 < num) = false := decide_eq_false (by omega)
  have d3 : decide (den < 1) = false := decide_eq_false (by omega)
  have d4 : decide (10000 < den) = true := decide_eq_true (by omega)
  clear hA hv
  go_enter Try.func38, Try.ntmps38
  go_wp2_with (first
    | (refine wpList_load_row rfl 24 (.tmp 3) rfl (w.heap.size) rfl 24 _ (0, 0) _ P0.out Try.underlying24 rfl (S.i24 _ _ _ _) ?_)
    | (go_at_call 25; (with_reducible refine (VC.out _ D0.out).mono ?_); rintro e w1 ⟨rfl, hb1⟩; have P1 := Lib.hid (bkBelow P0.out hb1); have H1 := Lib.hid (bkBelow H0.out hb1); have D1 := Lib.hid (D0.out.later hb1); have B1 := bdT B0 B0.size hb1)
    | (refine wpBuild0 rfl 24 rfl (S.zero.cs none 0 0) built24 ?_)
    | (refine wpList_store_row rfl 24 (.tmp 6) (.tmp 31) rfl (w.heap.size + 1) (S.zero.cs none 0 0) rfl rfl 24 _ H1.out (S.i24 _ _ _ _) (S.sz S.zero S.zero none none 0 0 0 0) (S.one _ _ _ _) ?_))
  refine bodyPost_ret (res_ct rfl _ _ (w.heap.size + 1) 24 _ (0, 0) _ rfl (setRow_heap _ _ _ _ _ _ H1.out) Try.underlying24 rfl (S.i24 _ _ _ _)) rfl ⟨none, 0, rfl, own0, below_setRow B1 (by omega) _⟩
set_option maxHeartbeats 16000000 in
set_option maxRecDepth 100000 in
theorem ramp_8 (s : S) (A : Option Addr) (n c0 b o : Nat) (xs : Nat → Int) (num den : Int) (h1 : -10000 ≤ num) (h2 : num ≤ 10000) (h3 : 1 ≤ den) (h4 : den ≤ 10000) (hv : vS s n xs = true) (hN : A = none → c0 = 0) (ha2 : s.a2 = 8) (hn : n ≤ 9223372036854775807) (hc0 : n ≤ c0) (w : World) (hA : DataAt w A n b o xs) : Gives 38 #[.agg (s.cs A n c0), iv num, iv den] w s n (ampF s.a2 num den xs) 0 := by
  unfold Gives
  have H0 := Lib.hid (show ((w.alloc (Obj.cells (s.cs A n c0) 24)).alloc (Obj.cells #[Value.string ⟨#[]⟩, Value.slice none 0 0, iv 0, iv 0, iv 0, iv 0, iv 0, iv 0, iv 0, iv 0, iv 0, iv 0, iv 0] 24)).heap[w.heap.size + 1]? = some (.cells (S.zero.cs none 0 0) 24 (0, 0)) from heap_alloc2_new w (Obj.cells (s.cs A n c0) 24) (Obj.cells #[Value.string ⟨#[]⟩, Value.slice none 0 0, iv 0, iv 0, iv 0, iv 0, iv 0, iv 0, iv 0, iv 0, iv 0, iv 0, iv 0] 24))
  have B0 : Below w.heap.size w ((w.alloc (Obj.cells (s.cs A n c0) 24)).alloc (Obj.cells #[Value.string ⟨#[]⟩, Value.slice none 0 0, iv 0, iv 0, iv 0, iv 0, iv 0, iv 0, iv 0, iv 0, iv 0, iv 0, iv 0] 24)) := ((Below.refl _ _).alloc (Nat.le_refl _) _).alloc (by simp) _
  have P0 := Lib.hid (show ((w.alloc (Obj.cells (s.cs A n c0) 24)).alloc (Obj.cells #[Value.string ⟨#[]⟩, Value.slice none 0 0, iv 0, iv 0, iv 0, iv 0, iv 0, iv 0, iv 0, iv 0, iv 0, iv 0, iv 0] 24)).heap[w.heap.size]? = some (.cells (s.cs A n c0) 24 (0, 0)) from heap_alloc2_old w _ _)
  have D0 := Lib.hid (hA.later B0)
  have VC := Lib.hid (show ∀ (W : World), DataAt W A n b o xs → Calls Try.prog 25 #[.agg (s.cs A n c0)] W fun e w' => e = .returned (.bool true) ∧ Below W.heap.size W w' from fun W h => by have := rvalid_any s A n c0 b o xs hn hc0 W h; rwa [hv] at this)
  obtain ⟨_, _, n4, _, _, _, l7, l10⟩ := vS_yes hv
  unfold LpOk at l7 l10
  have HN := Lib.hid n4
  have HX := Lib.hid (vS_frames hv)
  have OC := Lib.hid fun (W : World) (h : DataAt W A n b o xs) => fresh_any s A n c0 b o xs (by omega) hN W h
  have HA2 := Lib.hid ha2
  have HNUM := Lib.hid (show (-10000 ≤ num ∧ num ≤ 10000) ∧ (1 ≤ den ∧ den ≤ 10000) from ⟨⟨h1, h2⟩, h3, h4⟩)
  have HFR := Lib.hid (show ∀ i, i < n → -32768 ≤ xs i ∧ xs i ≤ 32767 from fun i hi => by have := (vS_yes hv).2.2.2.2.1 i hi; rw [ha2] at this; change -128 ≤ xs i ∧ xs i ≤ 128 - 1 at this; omega)
  have d1 : decide (num < -10000) = false := decide_eq_false (by omega)
  have d2 : decide (10000 < num) = false := decide_eq_false (by omega)
  have d3 : decide (den < 1) = false := decide_eq_false (by omega)
  have d4 : decide (10000 < den) = false := decide_eq_false (by omega)
  clear hA hv l7 l10 ha2 h1 h2 h3 h4
  go_enter Try.func38, Try.ntmps38
  go_upto_region 5 with (first
    | (refine wpList_load_row rfl 24 (.tmp 3) rfl (w.heap.size) rfl 24 _ (0, 0) _ P0.out Try.underlying24 rfl (S.i24 _ _ _ _) ?_)
    | (go_at_call 25; (with_reducible refine (VC.out _ D0.out).mono ?_); rintro e w1 ⟨rfl, hb1⟩; have P1 := Lib.hid (bkBelow P0.out hb1); have H1 := Lib.hid (bkBelow H0.out hb1); have D1 := Lib.hid (D0.out.later hb1); have B1 := bdT B0 B0.size hb1))
  have HP := Lib.hid (bkLt P1.out)
  have HH := Lib.hid (bkLt H1.out)
  clear d1 d2 d3 d4
  have p2 := (bkCell P1.out 2).trans (show _ = some (iv s.a2) from rfl)
  rw [HA2.out] at p2
  go_upto_region 6 with (fail)
  clear p2
  go_upto_region 7 with (first
    | (refine wpList_load_row rfl 24 (.tmp 3) rfl (w.heap.size) rfl 24 _ (0, 0) _ P1.out Try.underlying24 rfl (S.i24 _ _ _ _) ?_)
    | (go_at_call 79; (with_reducible refine (OC.out _ D1.out).mono ?_); rintro e w2 ⟨A', c', rfl, hO2, hb2⟩; have P2 := Lib.hid (bkBelow P1.out hb2); have H2 := Lib.hid (bkBelow H1.out hb2); have B2 := bdT B1 B1.size hb2; have O2 := Lib.hid hO2; clear hO2 hb2)
    | (refine wpList_store_row rfl 24 (.tmp 9) (.tmp 37) rfl (w2.heap.size) (s.cs A' n c') rfl rfl 24 _ (heap_alloc_new w2 (Obj.cells #[Value.string ⟨#[]⟩, Value.slice none 0 0, iv 0, iv 0, iv 0, iv 0, iv 0, iv 0, iv 0, iv 0, iv 0, iv 0, iv 0] 24)) (S.i24 _ _ _ _) (S.sz S.zero s none _ 0 0 _ _) (S.one _ _ _ _) ?_))
  have K3 := below_setRow ((Below.refl w2.heap.size w2).alloc (Nat.le_refl _) (Obj.cells #[Value.string ⟨#[]⟩, Value.slice none 0 0, iv 0, iv 0, iv 0, iv 0, iv 0, iv 0, iv 0, iv 0, iv 0, iv 0, iv 0] 24)) (g := w2.heap.size) (Nat.le_refl _) (s.cs A' n c')
  have P3 := Lib.hid (bkBelow P2.out K3)
  have H3 := Lib.hid (bkBelow H2.out K3)
  have O3 := Lib.hid (ownV O2.out K3)
  have T3 := Lib.hid (setRow_heap _ _ _ (s.cs A' n c') _ _ (heap_alloc_new w2 (Obj.cells #[Value.string ⟨#[]⟩, Value.slice none 0 0, iv 0, iv 0, iv 0, iv 0, iv 0, iv 0, iv 0, iv 0, iv 0, iv 0, iv 0] 24)))
  have B3 := bdT B2 B2.size K3
  have HL := Lib.hid (ownLt O2.out)
  have HP2 := Lib.hid (bkLt P2.out)
  have HH2 := Lib.hid (bkLt H2.out)
  clear P2 H2 O2 B2 P0 H0 D0 B0 H1 D1 B1 P1 K3
  generalize (w2.alloc (Obj.cells #[Value.string ⟨#[]⟩, Value.slice none 0 0, iv 0, iv 0, iv 0, iv 0, iv 0, iv 0, iv 0, iv 0, iv 0, iv 0, iv 0] 24)).setRow w2.heap.size (s.cs A' n c') = w3 at *
  have P4 := P3
  have H4 := H3
  have T4 := T3
  have O4 := O3
  have B4 := B3
  clear P3 H3 T3 O3 B3
  have t1 := (bkCell T4.out 1).trans (show _ = some (Value.slice A' n c') from rfl)
  go_upto_region 8 with (fail)
  clear t1
  go_loopw [41] (fun v wr => ∃ j : Nat, j ≤ n ∧ v = iv j ∧ wr.heap[w.heap.size]? = some (.cells (s.cs A n c0) 24 (0, 0)) ∧ wr.heap[w.heap.size + 1]? = some (.cells (S.zero.cs none 0 0) 24 (0, 0)) ∧ wr.heap[w2.heap.size]? = some (.cells (s.cs A' n c') 24 (0, 0)) ∧ wr.ownsRow w1.heap.size 3 1 (.slice A' n c') n (rw_ (upF (ampX 8 num den) xs j) n) ∧ Below w.heap.size w wr) (fun v _ => n - (intOf v).toNat)
  case atStart => exact ⟨0, by omega, rfl, P4.out, H4.out, T4.out, ownN O4.out (by rw [upF_zero]), B4⟩
  case round =>
    clear P4 H4 T4 B4
    obtain ⟨j, hj, rfl, hP, hH, hT, hO, hB⟩ := hrel
    have NP := Lib.hid hP
    have NH := Lib.hid hH
    have NT := Lib.hid hT
    have NO := Lib.hid hO
    have l3 : (0 : Int) ≤ (j : Int) := by omega
    clear hP hH hT hO
    by_cases hlt : j < n
    · have l4 : (j : Int) < (n : Int) := by omega
      obtain ⟨A2, c2, g, e, hd, hform⟩ := ownDataV NO.out
      obtain ⟨rfl, rfl⟩ : A' = A2 ∧ c' = c2 := by simp only [Value.slice.injEq] at e; exact ⟨e.1, e.2.2⟩
      obtain ⟨rfl, hg⟩ : A' = some ⟨g, 0, none⟩ ∧ w1.heap.size ≤ g := by
        rcases hform with h | h
        · omega
        · exact h
      have HG := Lib.hid (show w1.heap.size ≤ g ∧ g < w2.heap.size ∧ w.heap.size < w1.heap.size ∧ w.heap.size + 1 < w1.heap.size from ⟨hg, HL.out g rfl, HP.out, HH.out⟩)
      have s4 : wr.cell? ⟨g, j, none⟩ = some (iv (xs j)) := ((NO.out.cellAt j (by omega)).trans (rw_at _ n j hlt)).trans (by rw [upF_at])
      clear hd hform hg e
      generalize hx : xs j = x at s4
      have HXJ := Lib.hid hx
      have bx := HX.out j hlt
      rw [hx] at bx
      clear hx
      have bb := HFR.out j hlt
      rw [HXJ.out] at bb
      obtain ⟨z, hz⟩ : ∃ z, nr (x * num) den = z := ⟨_, rfl⟩
      have TC := Lib.hid fun (W : World) => (show Calls Try.prog 81 #[iv x, iv num, iv den] W fun e w' => e = .returned (iv z) ∧ W = w' from hz ▸ times_any x num den bb HNUM.out.1 HNUM.out.2 W)
      have LC := Lib.hid fun (W : World) => (show Calls Try.prog 80 #[iv z, iv (-128), iv 127] W fun e w' => e = .returned (iv (clp 128 z)) ∧ W = w' from rclamp_any z 128 (by omega) (by omega) W)
      have HV := Lib.hid (show clp 128 z = ampX 8 num den x from by rw [← hz]; rfl)
      generalize hy : clp 128 z = y at *
      have HY := Lib.hid hy
      have k1 : wrap64 (-128) = -128 := wrap_in (by omega) (by omega)
      have k2 : wrap64 (128 - 1) = 127 := (wrap_in (by omega) (by omega)).trans (by omega)
      have k3 : wrap64 127 = 127 := wrap_in (by omega) (by omega)
      have k4 : (128 : Int) - 1 = 127 := by decide
      clear bx bb hz hy
      go_upto_region 10 with (fail)
      refine start_ (n := 18) (S := fun w' => w'.heap[w.heap.size]? = some (.cells (s.cs A n c0) 24 (0, 0)) ∧ w'.heap[w.heap.size + 1]? = some (.cells (S.zero.cs none 0 0) 24 (0, 0)) ∧ w'.heap[w2.heap.size]? = some (.cells (s.cs (some ⟨g, 0, none⟩) n c') 24 (0, 0)) ∧ w'.cell? ⟨g, j, none⟩ = some (iv x) ∧ w'.ownsRow w1.heap.size 3 1 (.slice (some ⟨g, 0, none⟩) n c') n (rw_ (upF (ampX 8 num den) xs j) n) ∧ Below w.heap.size w w') (ds := [17]) #[false, false, false, false, false, false, false, false, false, false, false, false, false, false, false, false, false, false] (by kernel_rfl) rfl rfl ⟨NP.out, NH.out, NT.out, s4, NO.out.drew, hB.drew⟩ (fun hHeld => ?_)
      refine pure_ (i := 0) (N := some 44) (v := ?_) (a' := ?_) #[true, false, false, false, false, false, false, false, false, false, false, false, false, false, false, false, false, false] rfl rfl (by kernel_rfl) (fun _ _ _ h => h) (Or.inl ⟨by rfl, ?_⟩) ?_ ?_
      rotate_left
      · intro w'
        go_simp
        with_reducible rfl
      rotate_left
      · simp only [Act.put, List.setIfInBounds_toArray, List.set_cons_zero, List.set_cons_succ, i64_w, i32_w, k1, k2, k3, k4]
        rfl
      refine pure_ (i := 2) (N := some 46) (v := ?_) (a' := ?_) #[true, false, true, false, false, false, false, false, false, false, false, false, false, false, false, false, false, false] rfl rfl (by kernel_rfl) (fun _ _ _ h => h) (Or.inl ⟨by rfl, ?_⟩) ?_ ?_
      rotate_left
      · intro w'
        go_simp
        with_reducible rfl
      rotate_left
      · simp only [Act.put, List.setIfInBounds_toArray, List.set_cons_zero, List.set_cons_succ, i64_w, i32_w, k1, k2, k3, k4]
        rfl
      refine pure_ (i := 3) (N := some 47) (v := ?_) (a' := ?_) #[true, false, true, true, false, false, false, false, false, false, false, false, false, false, false, false, false, false] rfl rfl (by kernel_rfl) (fun _ _ _ h => h) (Or.inl ⟨by rfl, ?_⟩) ?_ ?_
      rotate_left
      · intro w'
        go_simp
        with_reducible rfl
      rotate_left
      · simp only [Act.put, List.setIfInBounds_toArray, List.set_cons_zero, List.set_cons_succ, i64_w, i32_w, k1, k2, k3, k4]
        rfl
      refine pure_ (i := 5) (N := some 49) (v := ?_) (a' := ?_) #[true, false, true, true, false, true, false, false, false, false, false, false, false, false, false, false, false, false] rfl rfl (by kernel_rfl) (fun _ _ _ h => h) (Or.inl ⟨by rfl, ?_⟩) ?_ ?_
      rotate_left
      · intro w'
        go_simp
        with_reducible rfl
      rotate_left
      · simp only [Act.put, List.setIfInBounds_toArray, List.set_cons_zero, List.set_cons_succ, i64_w, i32_w, k1, k2, k3, k4]
        rfl
      refine pure_ (i := 8) (N := some 52) (v := ?_) (a' := ?_) #[true, false, true, true, false, true, false, false, true, false, false, false, false, false, false, false, false, false] rfl rfl (by kernel_rfl) (fun _ _ _ h => h) (Or.inl ⟨by rfl, ?_⟩) ?_ ?_
      rotate_left
      · intro w'
        go_simp
        with_reducible rfl
      rotate_left
      · simp only [Act.put, List.setIfInBounds_toArray, List.set_cons_zero, List.set_cons_succ, i64_w, i32_w, k1, k2, k3, k4]
        rfl
      refine pure_ (i := 9) (N := some 53) (v := ?_) (a' := ?_) #[true, false, true, true, false, true, false, false, true, true, false, false, false, false, false, false, false, false] rfl rfl (by kernel_rfl) (fun _ _ _ h => h) (Or.inl ⟨by rfl, ?_⟩) ?_ ?_
      rotate_left
      · intro w'
        go_simp
        with_reducible rfl
      rotate_left
      · simp only [Act.put, List.setIfInBounds_toArray, List.set_cons_zero, List.set_cons_succ, i64_w, i32_w, k1, k2, k3, k4]
        rfl
      refine pure_ (i := 11) (N := some 55) (v := ?_) (a' := ?_) #[true, false, true, true, false, true, false, false, true, true, false, true, false, false, false, false, false, false] rfl rfl (by kernel_rfl) (fun _ _ _ h => h) (Or.inl ⟨by rfl, ?_⟩) ?_ ?_
      rotate_left
      · intro w'
        go_simp
        with_reducible rfl
      rotate_left
      · simp only [Act.put, List.setIfInBounds_toArray, List.set_cons_zero, List.set_cons_succ, i64_w, i32_w, k1, k2, k3, k4]
        rfl
      refine pure_ (i := 12) (N := some 56) (v := ?_) (a' := ?_) #[true, false, true, true, false, true, false, false, true, true, false, true, true, false, false, false, false, false] rfl rfl (by kernel_rfl) (fun _ _ _ h => h) (Or.inl ⟨by rfl, ?_⟩) ?_ ?_
      rotate_left
      · intro w'
        go_simp
        with_reducible rfl
      rotate_left
      · simp only [Act.put, List.setIfInBounds_toArray, List.set_cons_zero, List.set_cons_succ, i64_w, i32_w, k1, k2, k3, k4]
        rfl
      refine pure_ (i := 13) (N := some 57) (v := ?_) (a' := ?_) #[true, false, true, true, false, true, false, false, true, true, false, true, true, true, false, false, false, false] rfl rfl (by kernel_rfl) (fun _ _ _ h => h) (Or.inl ⟨by rfl, ?_⟩) ?_ ?_
      rotate_left
      · intro w'
        go_simp
        with_reducible rfl
      rotate_left
      · simp only [Act.put, List.setIfInBounds_toArray, List.set_cons_zero, List.set_cons_succ, i64_w, i32_w, k1, k2, k3, k4]
        rfl
      refine pure_ (i := 14) (N := some 58) (v := ?_) (a' := ?_) #[true, false, true, true, false, true, false, false, true, true, false, true, true, true, true, false, false, false] rfl rfl (by kernel_rfl) (fun _ _ _ h => h) (Or.inl ⟨by rfl, ?_⟩) ?_ ?_
      rotate_left
      · intro w'
        go_simp
        with_reducible rfl
      rotate_left
      · simp only [Act.put, List.setIfInBounds_toArray, List.set_cons_zero, List.set_cons_succ, i64_w, i32_w, k1, k2, k3, k4]
        rfl
      refine take_ (i := 1) (N := some 45) (v := ?_) (a' := ?_) #[true, true, true, true, false, true, false, false, true, true, false, true, true, true, true, false, false, false] rfl rfl (by kernel_rfl) (fun _ _ _ h => h) (Or.inl ⟨by rfl, ?_⟩) hHeld ?_ ?_
      rotate_left
      · rintro w' ⟨s0, s1, s2, s3, s4, s5⟩
        have q1 := (bkCell s2 1).trans (show _ = some (Value.slice (some ⟨g, 0, none⟩) n c') from rfl)
        clear s0 s1 s2 s3 s4 s5
        go_simp
        with_reducible rfl
      rotate_left
      · simp only [Act.put, List.setIfInBounds_toArray, List.set_cons_zero, List.set_cons_succ, i64_w, i32_w, k1, k2, k3, k4]
        rfl
      refine take_ (i := 4) (N := some 48) (v := ?_) (a' := ?_) #[true, true, true, true, true, true, false, false, true, true, false, true, true, true, true, false, false, false] rfl rfl (by kernel_rfl) (fun _ _ _ h => h) (Or.inl ⟨by rfl, ?_⟩) hHeld ?_ ?_
      rotate_left
      · rintro w' ⟨s0, s1, s2, s3, s4, s5⟩
        have q1 := (bkCell s2 1).trans (show _ = some (Value.slice (some ⟨g, 0, none⟩) n c') from rfl)
        clear s0 s1 s2 s3 s4 s5
        go_simp
        with_reducible rfl
      rotate_left
      · simp only [Act.put, List.setIfInBounds_toArray, List.set_cons_zero, List.set_cons_succ, i64_w, i32_w, k1, k2, k3, k4]
        rfl
      refine pure_ (i := 6) (N := some 50) (v := ?_) (a' := ?_) #[true, true, true, true, true, true, true, false, true, true, false, true, true, true, true, false, false, false] rfl rfl (by kernel_rfl) (fun _ _ _ h => h) (Or.inl ⟨by rfl, ?_⟩) ?_ ?_
      rotate_left
      · intro w'
        go_simp
        with_reducible rfl
      rotate_left
      · simp only [Act.put, List.setIfInBounds_toArray, List.set_cons_zero, List.set_cons_succ, i64_w, i32_w, k1, k2, k3, k4]
        rfl
      refine take_ (i := 7) (N := some 51) (v := ?_) (a' := ?_) #[true, true, true, true, true, true, true, true, true, true, false, true, true, true, true, false, false, false] rfl rfl (by kernel_rfl) (fun _ _ _ h => h) (Or.inl ⟨by rfl, ?_⟩) hHeld ?_ ?_
      rotate_left
      · rintro w' ⟨s0, s1, s2, s3, s4, s5⟩
        clear s0 s1 s2 s4 s5
        go_simp
        with_reducible rfl
      rotate_left
      · simp only [Act.put, List.setIfInBounds_toArray, List.set_cons_zero, List.set_cons_succ, i64_w, i32_w, k1, k2, k3, k4]
        rfl
      refine one_ (i := 10) (N := some 54) #[true, true, true, true, true, true, true, true, true, true, true, true, true, true, true, false, false, false] rfl rfl (by kernel_rfl) (by decide) (fun K hK => ?_)
      obtain ⟨s0, s1, s2, s3, s4, s5⟩ := hHeld
      refine goes_ Try.func81 (by kernel_rfl) rfl #[iv x, iv num, iv den] (by rfl) rfl rfl (by simp only [List.map_toArray, List.map_cons, List.map_nil]; rfl) ?_
      with_reducible refine (TC.out _).mono ?_
      rintro e w5 ⟨rfl, rfl⟩
      refine ⟨_, rfl, ?_⟩
      refine hK.out _ _ ⟨s0, s1, s2, s3, s4, s5⟩ (fun hHeld => ?_)
      clear hK K
      refine norm_ (a' := ?_) ?_ ?_
      rotate_left
      · show Act.put _ (some 54) _ = _
        simp only [Act.put, List.setIfInBounds_toArray, List.set_cons_zero, List.set_cons_succ, i64_w, i32_w, k1, k2, k3, k4]
        rfl
      refine one_ (i := 15) (N := some 59) #[true, true, true, true, true, true, true, true, true, true, true, true, true, true, true, true, false, false] rfl rfl (by kernel_rfl) (by decide) (fun K hK => ?_)
      obtain ⟨s0, s1, s2, s3, s4, s5⟩ := hHeld
      refine goes_ Try.func80 (by kernel_rfl) rfl #[iv z, iv (-128), iv 127] (by rfl) rfl rfl (by simp only [List.map_toArray, List.map_cons, List.map_nil]; rfl) ?_
      with_reducible refine (LC.out _).mono ?_
      rintro e w5 ⟨rfl, rfl⟩
      refine ⟨_, rfl, ?_⟩
      refine hK.out _ _ ⟨s0, s1, s2, s3, s4, s5⟩ (fun hHeld => ?_)
      clear hK K
      refine norm_ (a' := ?_) ?_ ?_
      rotate_left
      · show Act.put _ (some 59) _ = _
        simp only [Act.put, List.setIfInBounds_toArray, List.set_cons_zero, List.set_cons_succ, i64_w, i32_w, k1, k2, k3, k4]
        rfl
      refine pure_ (i := 16) (N := some 60) (v := ?_) (a' := ?_) #[true, true, true, true, true, true, true, true, true, true, true, true, true, true, true, true, true, false] rfl rfl (by kernel_rfl) (fun _ _ _ h => h) (Or.inl ⟨by rfl, ?_⟩) ?_ ?_
      rotate_left
      · intro w'
        go_simp
        with_reducible rfl
      rotate_left
      · simp only [Act.put, List.setIfInBounds_toArray, List.set_cons_zero, List.set_cons_succ, i64_w, i32_w, k1, k2, k3, k4]
        rfl
      refine last_ (i := 17) (N := none) #[true, true, true, true, true, true, true, true, true, true, true, true, true, true, true, true, true, true] rfl rfl (by kernel_rfl) (by decide) (fun K hK => ?_)
      obtain ⟨P5, H5, T5, s5, O5, B5⟩ := hHeld
      have z5 := O5.frozenAt j
      have N5 := Lib.hid (And.intro P5 (And.intro H5 (And.intro T5 (And.intro O5 B5))))
      clear P5 H5 T5 O5 B5
      refine skip_ (w1 := ?_) (by rfl) rfl ?_ ?_
      rotate_left
      · go_simp
        rfl
      refine hK.out _ _ ?_
      clear hK K
      refine done_ (by kernel_rfl) ?_
      obtain ⟨P5, H5, T5, O5, B5⟩ := N5.out
      have P6 := Lib.hid (bkFar P5 (p := ⟨g, j, none⟩) (by have := HG.out; simp; omega) (iv y))
      have H6 := Lib.hid (bkFar H5 (p := ⟨g, j, none⟩) (by have := HG.out; simp; omega) (iv y))
      have T6 := Lib.hid (bkFar T5 (p := ⟨g, j, none⟩) (by have := HG.out; simp; omega) (iv y))
      have O6 := Lib.hid (ownN (O5.stored j (iv y)).1 ((rw_set _ n j _).trans ((show rw_ _ n = rw_ (fun i => if i = j then ampX 8 num den (xs j) else upF (ampX 8 num den) xs j i) n by rw [HXJ.out]; rw [HV.out]).trans (upF_step (ampX 8 num den) xs n j))))
      have B6 := B5.setCell (p := ⟨g, j, none⟩) (by have := HG.out; simp; omega) (iv y)
      clear P5 H5 T5 O5 B5 s5 z5 N5
      go_wp2
      exact ⟨⟨j + 1, by omega, by go_num, P6.out, H6.out, T6.out, O6.out, B6⟩, by simp [intOf]; omega⟩
    · obtain rfl : j = n := by omega
      go_upto_region 12 with (fail)
      go_wp2_with (first
        | (refine wpList_load_row rfl 24 (.tmp 9) rfl (w2.heap.size) rfl 24 _ (0, 0) _ NT.out Try.underlying24 rfl (S.i24 _ _ _ _) ?_)
        | (refine wpList_store_row rfl 24 (.tmp 6) (.tmp 62) rfl (w.heap.size + 1) (s.cs A' j c') rfl rfl 24 _ NH.out (S.i24 _ _ _ _) (S.sz S.zero _ none _ 0 0 _ _) (S.one _ _ _ _) ?_))
      refine bodyPost_ret (res_ct rfl _ _ (w.heap.size + 1) 24 _ (0, 0) _ rfl (setRow_heap _ _ _ _ _ _ NH.out) Try.underlying24 rfl (S.i24 _ _ _ _)) rfl ⟨A', c', rfl, ownN (ownBase2 (ownVR NO.out HH.out _) (Nat.le_of_lt HP.out)) (by rw [upF_end]; show _ = rw_ (ampF s.a2 num den xs) _; rw [HA2.out]; rfl), below_setRow hB (by omega) _⟩
set_option maxHeartbeats 16000000 in
set_option maxRecDepth 100000 in
theorem ramp_16 (s : S) (A : Option Addr) (n c0 b o : Nat) (xs : Nat → Int) (num den : Int) (h1 : -10000 ≤ num) (h2 : num ≤ 10000) (h3 : 1 ≤ den) (h4 : den ≤ 10000) (hv : vS s n xs = true) (hN : A = none → c0 = 0) (ha2 : s.a2 = 16) (hn : n ≤ 9223372036854775807) (hc0 : n ≤ c0) (w : World) (hA : DataAt w A n b o xs) : Gives 38 #[.agg (s.cs A n c0), iv num, iv den] w s n (ampF s.a2 num den xs) 0 := by
  unfold Gives
  have H0 := Lib.hid (show ((w.alloc (Obj.cells (s.cs A n c0) 24)).alloc (Obj.cells #[Value.string ⟨#[]⟩, Value.slice none 0 0, iv 0, iv 0, iv 0, iv 0, iv 0, iv 0, iv 0, iv 0, iv 0, iv 0, iv 0] 24)).heap[w.heap.size + 1]? = some (.cells (S.zero.cs none 0 0) 24 (0, 0)) from heap_alloc2_new w (Obj.cells (s.cs A n c0) 24) (Obj.cells #[Value.string ⟨#[]⟩, Value.slice none 0 0, iv 0, iv 0, iv 0, iv 0, iv 0, iv 0, iv 0, iv 0, iv 0, iv 0, iv 0] 24))
  have B0 : Below w.heap.size w ((w.alloc (Obj.cells (s.cs A n c0) 24)).alloc (Obj.cells #[Value.string ⟨#[]⟩, Value.slice none 0 0, iv 0, iv 0, iv 0, iv 0, iv 0, iv 0, iv 0, iv 0, iv 0, iv 0, iv 0] 24)) := ((Below.refl _ _).alloc (Nat.le_refl _) _).alloc (by simp) _
  have P0 := Lib.hid (show ((w.alloc (Obj.cells (s.cs A n c0) 24)).alloc (Obj.cells #[Value.string ⟨#[]⟩, Value.slice none 0 0, iv 0, iv 0, iv 0, iv 0, iv 0, iv 0, iv 0, iv 0, iv 0, iv 0, iv 0] 24)).heap[w.heap.size]? = some (.cells (s.cs A n c0) 24 (0, 0)) from heap_alloc2_old w _ _)
  have D0 := Lib.hid (hA.later B0)
  have VC := Lib.hid (show ∀ (W : World), DataAt W A n b o xs → Calls Try.prog 25 #[.agg (s.cs A n c0)] W fun e w' => e = .returned (.bool true) ∧ Below W.heap.size W w' from fun W h => by have := rvalid_any s A n c0 b o xs hn hc0 W h; rwa [hv] at this)
  obtain ⟨_, _, n4, _, _, _, l7, l10⟩ := vS_yes hv
  unfold LpOk at l7 l10
  have HN := Lib.hid n4
  have HX := Lib.hid (vS_frames hv)
  have OC := Lib.hid fun (W : World) (h : DataAt W A n b o xs) => fresh_any s A n c0 b o xs (by omega) hN W h
  have HA2 := Lib.hid ha2
  have HNUM := Lib.hid (show (-10000 ≤ num ∧ num ≤ 10000) ∧ (1 ≤ den ∧ den ≤ 10000) from ⟨⟨h1, h2⟩, h3, h4⟩)
  have HFR := Lib.hid (show ∀ i, i < n → -32768 ≤ xs i ∧ xs i ≤ 32767 from fun i hi => by have := (vS_yes hv).2.2.2.2.1 i hi; rw [ha2] at this; change -32768 ≤ xs i ∧ xs i ≤ 32768 - 1 at this; omega)
  have d1 : decide (num < -10000) = false := decide_eq_false (by omega)
  have d2 : decide (10000 < num) = false := decide_eq_false (by omega)
  have d3 : decide (den < 1) = false := decide_eq_false (by omega)
  have d4 : decide (10000 < den) = false := decide_eq_false (by omega)
  clear hA hv l7 l10 ha2 h1 h2 h3 h4
  go_enter Try.func38, Try.ntmps38
  go_upto_region 5 with (first
    | (refine wpList_load_row rfl 24 (.tmp 3) rfl (w.heap.size) rfl 24 _ (0, 0) _ P0.out Try.underlying24 rfl (S.i24 _ _ _ _) ?_)
    | (go_at_call 25; (with_reducible refine (VC.out _ D0.out).mono ?_); rintro e w1 ⟨rfl, hb1⟩; have P1 := Lib.hid (bkBelow P0.out hb1); have H1 := Lib.hid (bkBelow H0.out hb1); have D1 := Lib.hid (D0.out.later hb1); have B1 := bdT B0 B0.size hb1))
  have HP := Lib.hid (bkLt P1.out)
  have HH := Lib.hid (bkLt H1.out)
  clear d1 d2 d3 d4
  have p2 := (bkCell P1.out 2).trans (show _ = some (iv s.a2) from rfl)
  rw [HA2.out] at p2
  go_upto_region 6 with (fail)
  clear p2
  go_upto_region 7 with (first
    | (refine wpList_load_row rfl 24 (.tmp 3) rfl (w.heap.size) rfl 24 _ (0, 0) _ P1.out Try.underlying24 rfl (S.i24 _ _ _ _) ?_)
    | (go_at_call 79; (with_reducible refine (OC.out _ D1.out).mono ?_); rintro e w2 ⟨A', c', rfl, hO2, hb2⟩; have P2 := Lib.hid (bkBelow P1.out hb2); have H2 := Lib.hid (bkBelow H1.out hb2); have B2 := bdT B1 B1.size hb2; have O2 := Lib.hid hO2; clear hO2 hb2)
    | (refine wpList_store_row rfl 24 (.tmp 9) (.tmp 37) rfl (w2.heap.size) (s.cs A' n c') rfl rfl 24 _ (heap_alloc_new w2 (Obj.cells #[Value.string ⟨#[]⟩, Value.slice none 0 0, iv 0, iv 0, iv 0, iv 0, iv 0, iv 0, iv 0, iv 0, iv 0, iv 0, iv 0] 24)) (S.i24 _ _ _ _) (S.sz S.zero s none _ 0 0 _ _) (S.one _ _ _ _) ?_))
  have K3 := below_setRow ((Below.refl w2.heap.size w2).alloc (Nat.le_refl _) (Obj.cells #[Value.string ⟨#[]⟩, Value.slice none 0 0, iv 0, iv 0, iv 0, iv 0, iv 0, iv 0, iv 0, iv 0, iv 0, iv 0, iv 0] 24)) (g := w2.heap.size) (Nat.le_refl _) (s.cs A' n c')
  have P3 := Lib.hid (bkBelow P2.out K3)
  have H3 := Lib.hid (bkBelow H2.out K3)
  have O3 := Lib.hid (ownV O2.out K3)
  have T3 := Lib.hid (setRow_heap _ _ _ (s.cs A' n c') _ _ (heap_alloc_new w2 (Obj.cells #[Value.string ⟨#[]⟩, Value.slice none 0 0, iv 0, iv 0, iv 0, iv 0, iv 0, iv 0, iv 0, iv 0, iv 0, iv 0, iv 0] 24)))
  have B3 := bdT B2 B2.size K3
  have HL := Lib.hid (ownLt O2.out)
  have HP2 := Lib.hid (bkLt P2.out)
  have HH2 := Lib.hid (bkLt H2.out)
  clear P2 H2 O2 B2 P0 H0 D0 B0 H1 D1 B1 P1 K3
  generalize (w2.alloc (Obj.cells #[Value.string ⟨#[]⟩, Value.slice none 0 0, iv 0, iv 0, iv 0, iv 0, iv 0, iv 0, iv 0, iv 0, iv 0, iv 0, iv 0] 24)).setRow w2.heap.size (s.cs A' n c') = w3 at *
  have P4 := P3
  have H4 := H3
  have T4 := T3
  have O4 := O3
  have B4 := B3
  clear P3 H3 T3 O3 B3
  have t1 := (bkCell T4.out 1).trans (show _ = some (Value.slice A' n c') from rfl)
  go_upto_region 8 with (fail)
  clear t1
  go_loopw [41] (fun v wr => ∃ j : Nat, j ≤ n ∧ v = iv j ∧ wr.heap[w.heap.size]? = some (.cells (s.cs A n c0) 24 (0, 0)) ∧ wr.heap[w.heap.size + 1]? = some (.cells (S.zero.cs none 0 0) 24 (0, 0)) ∧ wr.heap[w2.heap.size]? = some (.cells (s.cs A' n c') 24 (0, 0)) ∧ wr.ownsRow w1.heap.size 3 1 (.slice A' n c') n (rw_ (upF (ampX 16 num den) xs j) n) ∧ Below w.heap.size w wr) (fun v _ => n - (intOf v).toNat)
  case atStart => exact ⟨0, by omega, rfl, P4.out, H4.out, T4.out, ownN O4.out (by rw [upF_zero]), B4⟩
  case round =>
    clear P4 H4 T4 B4
    obtain ⟨j, hj, rfl, hP, hH, hT, hO, hB⟩ := hrel
    have NP := Lib.hid hP
    have NH := Lib.hid hH
    have NT := Lib.hid hT
    have NO := Lib.hid hO
    have l3 : (0 : Int) ≤ (j : Int) := by omega
    clear hP hH hT hO
    by_cases hlt : j < n
    · have l4 : (j : Int) < (n : Int) := by omega
      obtain ⟨A2, c2, g, e, hd, hform⟩ := ownDataV NO.out
      obtain ⟨rfl, rfl⟩ : A' = A2 ∧ c' = c2 := by simp only [Value.slice.injEq] at e; exact ⟨e.1, e.2.2⟩
      obtain ⟨rfl, hg⟩ : A' = some ⟨g, 0, none⟩ ∧ w1.heap.size ≤ g := by
        rcases hform with h | h
        · omega
        · exact h
      have HG := Lib.hid (show w1.heap.size ≤ g ∧ g < w2.heap.size ∧ w.heap.size < w1.heap.size ∧ w.heap.size + 1 < w1.heap.size from ⟨hg, HL.out g rfl, HP.out, HH.out⟩)
      have s4 : wr.cell? ⟨g, j, none⟩ = some (iv (xs j)) := ((NO.out.cellAt j (by omega)).trans (rw_at _ n j hlt)).trans (by rw [upF_at])
      clear hd hform hg e
      generalize hx : xs j = x at s4
      have HXJ := Lib.hid hx
      have bx := HX.out j hlt
      rw [hx] at bx
      clear hx
      have bb := HFR.out j hlt
      rw [HXJ.out] at bb
      obtain ⟨z, hz⟩ : ∃ z, nr (x * num) den = z := ⟨_, rfl⟩
      have TC := Lib.hid fun (W : World) => (show Calls Try.prog 81 #[iv x, iv num, iv den] W fun e w' => e = .returned (iv z) ∧ W = w' from hz ▸ times_any x num den bb HNUM.out.1 HNUM.out.2 W)
      have LC := Lib.hid fun (W : World) => (show Calls Try.prog 80 #[iv z, iv (-32768), iv 32767] W fun e w' => e = .returned (iv (clp 32768 z)) ∧ W = w' from rclamp_any z 32768 (by omega) (by omega) W)
      have HV := Lib.hid (show clp 32768 z = ampX 16 num den x from by rw [← hz]; rfl)
      generalize hy : clp 32768 z = y at *
      have HY := Lib.hid hy
      have k1 : wrap64 (-32768) = -32768 := wrap_in (by omega) (by omega)
      have k2 : wrap64 (32768 - 1) = 32767 := (wrap_in (by omega) (by omega)).trans (by omega)
      have k3 : wrap64 32767 = 32767 := wrap_in (by omega) (by omega)
      have k4 : (32768 : Int) - 1 = 32767 := by decide
      clear bx bb hz hy
      go_upto_region 10 with (fail)
      refine start_ (n := 18) (S := fun w' => w'.heap[w.heap.size]? = some (.cells (s.cs A n c0) 24 (0, 0)) ∧ w'.heap[w.heap.size + 1]? = some (.cells (S.zero.cs none 0 0) 24 (0, 0)) ∧ w'.heap[w2.heap.size]? = some (.cells (s.cs (some ⟨g, 0, none⟩) n c') 24 (0, 0)) ∧ w'.cell? ⟨g, j, none⟩ = some (iv x) ∧ w'.ownsRow w1.heap.size 3 1 (.slice (some ⟨g, 0, none⟩) n c') n (rw_ (upF (ampX 16 num den) xs j) n) ∧ Below w.heap.size w w') (ds := [17]) #[false, false, false, false, false, false, false, false, false, false, false, false, false, false, false, false, false, false] (by kernel_rfl) rfl rfl ⟨NP.out, NH.out, NT.out, s4, NO.out.drew, hB.drew⟩ (fun hHeld => ?_)
      refine pure_ (i := 0) (N := some 44) (v := ?_) (a' := ?_) #[true, false, false, false, false, false, false, false, false, false, false, false, false, false, false, false, false, false] rfl rfl (by kernel_rfl) (fun _ _ _ h => h) (Or.inl ⟨by rfl, ?_⟩) ?_ ?_
      rotate_left
      · intro w'
        go_simp
        with_reducible rfl
      rotate_left
      · simp only [Act.put, List.setIfInBounds_toArray, List.set_cons_zero, List.set_cons_succ, i64_w, i32_w, k1, k2, k3, k4]
        rfl
      refine pure_ (i := 2) (N := some 46) (v := ?_) (a' := ?_) #[true, false, true, false, false, false, false, false, false, false, false, false, false, false, false, false, false, false] rfl rfl (by kernel_rfl) (fun _ _ _ h => h) (Or.inl ⟨by rfl, ?_⟩) ?_ ?_
      rotate_left
      · intro w'
        go_simp
        with_reducible rfl
      rotate_left
      · simp only [Act.put, List.setIfInBounds_toArray, List.set_cons_zero, List.set_cons_succ, i64_w, i32_w, k1, k2, k3, k4]
        rfl
      refine pure_ (i := 3) (N := some 47) (v := ?_) (a' := ?_) #[true, false, true, true, false, false, false, false, false, false, false, false, false, false, false, false, false, false] rfl rfl (by kernel_rfl) (fun _ _ _ h => h) (Or.inl ⟨by rfl, ?_⟩) ?_ ?_
      rotate_left
      · intro w'
        go_simp
        with_reducible rfl
      rotate_left
      · simp only [Act.put, List.setIfInBounds_toArray, List.set_cons_zero, List.set_cons_succ, i64_w, i32_w, k1, k2, k3, k4]
        rfl
      refine pure_ (i := 5) (N := some 49) (v := ?_) (a' := ?_) #[true, false, true, true, false, true, false, false, false, false, false, false, false, false, false, false, false, false] rfl rfl (by kernel_rfl) (fun _ _ _ h => h) (Or.inl ⟨by rfl, ?_⟩) ?_ ?_
      rotate_left
      · intro w'
        go_simp
        with_reducible rfl
      rotate_left
      · simp only [Act.put, List.setIfInBounds_toArray, List.set_cons_zero, List.set_cons_succ, i64_w, i32_w, k1, k2, k3, k4]
        rfl
      refine pure_ (i := 8) (N := some 52) (v := ?_) (a' := ?_) #[true, false, true, true, false, true, false, false, true, false, false, false, false, false, false, false, false, false] rfl rfl (by kernel_rfl) (fun _ _ _ h => h) (Or.inl ⟨by rfl, ?_⟩) ?_ ?_
      rotate_left
      · intro w'
        go_simp
        with_reducible rfl
      rotate_left
      · simp only [Act.put, List.setIfInBounds_toArray, List.set_cons_zero, List.set_cons_succ, i64_w, i32_w, k1, k2, k3, k4]
        rfl
      refine pure_ (i := 9) (N := some 53) (v := ?_) (a' := ?_) #[true, false, true, true, false, true, false, false, true, true, false, false, false, false, false, false, false, false] rfl rfl (by kernel_rfl) (fun _ _ _ h => h) (Or.inl ⟨by rfl, ?_⟩) ?_ ?_
      rotate_left
      · intro w'
        go_simp
        with_reducible rfl
      rotate_left
      · simp only [Act.put, List.setIfInBounds_toArray, List.set_cons_zero, List.set_cons_succ, i64_w, i32_w, k1, k2, k3, k4]
        rfl
      refine pure_ (i := 11) (N := some 55) (v := ?_) (a' := ?_) #[true, false, true, true, false, true, false, false, true, true, false, true, false, false, false, false, false, false] rfl rfl (by kernel_rfl) (fun _ _ _ h => h) (Or.inl ⟨by rfl, ?_⟩) ?_ ?_
      rotate_left
      · intro w'
        go_simp
        with_reducible rfl
      rotate_left
      · simp only [Act.put, List.setIfInBounds_toArray, List.set_cons_zero, List.set_cons_succ, i64_w, i32_w, k1, k2, k3, k4]
        rfl
      refine pure_ (i := 12) (N := some 56) (v := ?_) (a' := ?_) #[true, false, true, true, false, true, false, false, true, true, false, true, true, false, false, false, false, false] rfl rfl (by kernel_rfl) (fun _ _ _ h => h) (Or.inl ⟨by rfl, ?_⟩) ?_ ?_
      rotate_left
      · intro w'
        go_simp
        with_reducible rfl
      rotate_left
      · simp only [Act.put, List.setIfInBounds_toArray, List.set_cons_zero, List.set_cons_succ, i64_w, i32_w, k1, k2, k3, k4]
        rfl
      refine pure_ (i := 13) (N := some 57) (v := ?_) (a' := ?_) #[true, false, true, true, false, true, false, false, true, true, false, true, true, true, false, false, false, false] rfl rfl (by kernel_rfl) (fun _ _ _ h => h) (Or.inl ⟨by rfl, ?_⟩) ?_ ?_
      rotate_left
      · intro w'
        go_simp
        with_reducible rfl
      rotate_left
      · simp only [Act.put, List.setIfInBounds_toArray, List.set_cons_zero, List.set_cons_succ, i64_w, i32_w, k1, k2, k3, k4]
        rfl
      refine pure_ (i := 14) (N := some 58) (v := ?_) (a' := ?_) #[true, false, true, true, false, true, false, false, true, true, false, true, true, true, true, false, false, false] rfl rfl (by kernel_rfl) (fun _ _ _ h => h) (Or.inl ⟨by rfl, ?_⟩) ?_ ?_
      rotate_left
      · intro w'
        go_simp
        with_reducible rfl
      rotate_left
      · simp only [Act.put, List.setIfInBounds_toArray, List.set_cons_zero, List.set_cons_succ, i64_w, i32_w, k1, k2, k3, k4]
        rfl
      refine take_ (i := 1) (N := some 45) (v := ?_) (a' := ?_) #[true, true, true, true, false, true, false, false, true, true, false, true, true, true, true, false, false, false] rfl rfl (by kernel_rfl) (fun _ _ _ h => h) (Or.inl ⟨by rfl, ?_⟩) hHeld ?_ ?_
      rotate_left
      · rintro w' ⟨s0, s1, s2, s3, s4, s5⟩
        have q1 := (bkCell s2 1).trans (show _ = some (Value.slice (some ⟨g, 0, none⟩) n c') from rfl)
        clear s0 s1 s2 s3 s4 s5
        go_simp
        with_reducible rfl
      rotate_left
      · simp only [Act.put, List.setIfInBounds_toArray, List.set_cons_zero, List.set_cons_succ, i64_w, i32_w, k1, k2, k3, k4]
        rfl
      refine take_ (i := 4) (N := some 48) (v := ?_) (a' := ?_) #[true, true, true, true, true, true, false, false, true, true, false, true, true, true, true, false, false, false] rfl rfl (by kernel_rfl) (fun _ _ _ h => h) (Or.inl ⟨by rfl, ?_⟩) hHeld ?_ ?_
      rotate_left
      · rintro w' ⟨s0, s1, s2, s3, s4, s5⟩
        have q1 := (bkCell s2 1).trans (show _ = some (Value.slice (some ⟨g, 0, none⟩) n c') from rfl)
        clear s0 s1 s2 s3 s4 s5
        go_simp
        with_reducible rfl
      rotate_left
      · simp only [Act.put, List.setIfInBounds_toArray, List.set_cons_zero, List.set_cons_succ, i64_w, i32_w, k1, k2, k3, k4]
        rfl
      refine pure_ (i := 6) (N := some 50) (v := ?_) (a' := ?_) #[true, true, true, true, true, true, true, false, true, true, false, true, true, true, true, false, false, false] rfl rfl (by kernel_rfl) (fun _ _ _ h => h) (Or.inl ⟨by rfl, ?_⟩) ?_ ?_
      rotate_left
      · intro w'
        go_simp
        with_reducible rfl
      rotate_left
      · simp only [Act.put, List.setIfInBounds_toArray, List.set_cons_zero, List.set_cons_succ, i64_w, i32_w, k1, k2, k3, k4]
        rfl
      refine take_ (i := 7) (N := some 51) (v := ?_) (a' := ?_) #[true, true, true, true, true, true, true, true, true, true, false, true, true, true, true, false, false, false] rfl rfl (by kernel_rfl) (fun _ _ _ h => h) (Or.inl ⟨by rfl, ?_⟩) hHeld ?_ ?_
      rotate_left
      · rintro w' ⟨s0, s1, s2, s3, s4, s5⟩
        clear s0 s1 s2 s4 s5
        go_simp
        with_reducible rfl
      rotate_left
      · simp only [Act.put, List.setIfInBounds_toArray, List.set_cons_zero, List.set_cons_succ, i64_w, i32_w, k1, k2, k3, k4]
        rfl
      refine one_ (i := 10) (N := some 54) #[true, true, true, true, true, true, true, true, true, true, true, true, true, true, true, false, false, false] rfl rfl (by kernel_rfl) (by decide) (fun K hK => ?_)
      obtain ⟨s0, s1, s2, s3, s4, s5⟩ := hHeld
      refine goes_ Try.func81 (by kernel_rfl) rfl #[iv x, iv num, iv den] (by rfl) rfl rfl (by simp only [List.map_toArray, List.map_cons, List.map_nil]; rfl) ?_
      with_reducible refine (TC.out _).mono ?_
      rintro e w5 ⟨rfl, rfl⟩
      refine ⟨_, rfl, ?_⟩
      refine hK.out _ _ ⟨s0, s1, s2, s3, s4, s5⟩ (fun hHeld => ?_)
      clear hK K
      refine norm_ (a' := ?_) ?_ ?_
      rotate_left
      · show Act.put _ (some 54) _ = _
        simp only [Act.put, List.setIfInBounds_toArray, List.set_cons_zero, List.set_cons_succ, i64_w, i32_w, k1, k2, k3, k4]
        rfl
      refine one_ (i := 15) (N := some 59) #[true, true, true, true, true, true, true, true, true, true, true, true, true, true, true, true, false, false] rfl rfl (by kernel_rfl) (by decide) (fun K hK => ?_)
      obtain ⟨s0, s1, s2, s3, s4, s5⟩ := hHeld
      refine goes_ Try.func80 (by kernel_rfl) rfl #[iv z, iv (-32768), iv 32767] (by rfl) rfl rfl (by simp only [List.map_toArray, List.map_cons, List.map_nil]; rfl) ?_
      with_reducible refine (LC.out _).mono ?_
      rintro e w5 ⟨rfl, rfl⟩
      refine ⟨_, rfl, ?_⟩
      refine hK.out _ _ ⟨s0, s1, s2, s3, s4, s5⟩ (fun hHeld => ?_)
      clear hK K
      refine norm_ (a' := ?_) ?_ ?_
      rotate_left
      · show Act.put _ (some 59) _ = _
        simp only [Act.put, List.setIfInBounds_toArray, List.set_cons_zero, List.set_cons_succ, i64_w, i32_w, k1, k2, k3, k4]
        rfl
      refine pure_ (i := 16) (N := some 60) (v := ?_) (a' := ?_) #[true, true, true, true, true, true, true, true, true, true, true, true, true, true, true, true, true, false] rfl rfl (by kernel_rfl) (fun _ _ _ h => h) (Or.inl ⟨by rfl, ?_⟩) ?_ ?_
      rotate_left
      · intro w'
        go_simp
        with_reducible rfl
      rotate_left
      · simp only [Act.put, List.setIfInBounds_toArray, List.set_cons_zero, List.set_cons_succ, i64_w, i32_w, k1, k2, k3, k4]
        rfl
      refine last_ (i := 17) (N := none) #[true, true, true, true, true, true, true, true, true, true, true, true, true, true, true, true, true, true] rfl rfl (by kernel_rfl) (by decide) (fun K hK => ?_)
      obtain ⟨P5, H5, T5, s5, O5, B5⟩ := hHeld
      have z5 := O5.frozenAt j
      have N5 := Lib.hid (And.intro P5 (And.intro H5 (And.intro T5 (And.intro O5 B5))))
      clear P5 H5 T5 O5 B5
      refine skip_ (w1 := ?_) (by rfl) rfl ?_ ?_
      rotate_left
      · go_simp
        rfl
      refine hK.out _ _ ?_
      clear hK K
      refine done_ (by kernel_rfl) ?_
      obtain ⟨P5, H5, T5, O5, B5⟩ := N5.out
      have P6 := Lib.hid (bkFar P5 (p := ⟨g, j, none⟩) (by have := HG.out; simp; omega) (iv y))
      have H6 := Lib.hid (bkFar H5 (p := ⟨g, j, none⟩) (by have := HG.out; simp; omega) (iv y))
      have T6 := Lib.hid (bkFar T5 (p := ⟨g, j, none⟩) (by have := HG.out; simp; omega) (iv y))
      have O6 := Lib.hid (ownN (O5.stored j (iv y)).1 ((rw_set _ n j _).trans ((show rw_ _ n = rw_ (fun i => if i = j then ampX 16 num den (xs j) else upF (ampX 16 num den) xs j i) n by rw [HXJ.out]; rw [HV.out]).trans (upF_step (ampX 16 num den) xs n j))))
      have B6 := B5.setCell (p := ⟨g, j, none⟩) (by have := HG.out; simp; omega) (iv y)
      clear P5 H5 T5 O5 B5 s5 z5 N5
      go_wp2
      exact ⟨⟨j + 1, by omega, by go_num, P6.out, H6.out, T6.out, O6.out, B6⟩, by simp [intOf]; omega⟩
    · obtain rfl : j = n := by omega
      go_upto_region 12 with (fail)
      go_wp2_with (first
        | (refine wpList_load_row rfl 24 (.tmp 9) rfl (w2.heap.size) rfl 24 _ (0, 0) _ NT.out Try.underlying24 rfl (S.i24 _ _ _ _) ?_)
        | (refine wpList_store_row rfl 24 (.tmp 6) (.tmp 62) rfl (w.heap.size + 1) (s.cs A' j c') rfl rfl 24 _ NH.out (S.i24 _ _ _ _) (S.sz S.zero _ none _ 0 0 _ _) (S.one _ _ _ _) ?_))
      refine bodyPost_ret (res_ct rfl _ _ (w.heap.size + 1) 24 _ (0, 0) _ rfl (setRow_heap _ _ _ _ _ _ NH.out) Try.underlying24 rfl (S.i24 _ _ _ _)) rfl ⟨A', c', rfl, ownN (ownBase2 (ownVR NO.out HH.out _) (Nat.le_of_lt HP.out)) (by rw [upF_end]; show _ = rw_ (ampF s.a2 num den xs) _; rw [HA2.out]; rfl), below_setRow hB (by omega) _⟩
theorem ramp_ok (s : S) (A : Option Addr) (n c0 b o : Nat) (xs : Nat → Int) (num den : Int) (h1 : -10000 ≤ num) (h2 : num ≤ 10000) (h3 : 1 ≤ den) (h4 : den ≤ 10000) (hv : vS s n xs = true) (hN : A = none → c0 = 0) (hn : n ≤ 9223372036854775807) (hc0 : n ≤ c0) (w : World) (hA : DataAt w A n b o xs) : Gives 38 #[.agg (s.cs A n c0), iv num, iv den] w s n (ampF s.a2 num den xs) 0 := by
  rcases (vS_yes hv).2.1 with h | h
  · exact ramp_8 s A n c0 b o xs num den h1 h2 h3 h4 hv hN h hn hc0 w hA
  · exact ramp_16 s A n c0 b o xs num den h1 h2 h3 h4 hv hN h hn hc0 w hA
end Go.Proofs.Ytnmoiolddfboiaa.SX

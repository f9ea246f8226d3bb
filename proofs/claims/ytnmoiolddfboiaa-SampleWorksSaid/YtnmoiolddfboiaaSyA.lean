/- A sample made louder. -/
import Derived.Test.YtnmoiolddfboiaaSxY
namespace Go.Proofs.Ytnmoiolddfboiaa.SX
open Go.RowKit Go.Proofs.YtnmoiolddfboiaaW.PrintLast Go.Proofs.Ytnmoiolddfboiaa.TX Go.Proofs.Ytnmoiolddfboiaa.Cu
set_option linter.unusedVariables false
set_option linter.unusedSimpArgs false
theorem mulB {a b A B : Int} (ha : -A ≤ a ∧ a ≤ A) (hb : -B ≤ b ∧ b ≤ B) : -(A * B) ≤ a * b ∧ a * b ≤ A * B := by
  have hA : 0 ≤ A := by omega
  have hB : 0 ≤ B := by omega
  rcases Int.le_total 0 a with h | h
  · have h1 : a * b ≤ a * B := Int.mul_le_mul_of_nonneg_left hb.2 h
    have h2 : a * (-B) ≤ a * b := Int.mul_le_mul_of_nonneg_left hb.1 h
    have h3 : a * B ≤ A * B := Int.mul_le_mul_of_nonneg_right ha.2 hB
    rw [Int.mul_neg] at h2
    omega
  · have h1 : a * B ≤ a * b := Int.mul_le_mul_of_nonpos_left h hb.2
    have h2 : a * b ≤ a * (-B) := Int.mul_le_mul_of_nonpos_left h hb.1
    have h3 : (-A) * B ≤ a * B := Int.mul_le_mul_of_nonneg_right ha.1 hB
    rw [Int.mul_neg] at h2
    rw [Int.neg_mul] at h3
    omega
/-- what the code makes of one frame, v times, its sign taken away -/
theorem amp_facts {x num den v q : Int} (hx : -32768 ≤ x ∧ x ≤ 32767) (hn : -10000 ≤ num ∧ num ≤ 10000) (hd : 1 ≤ den ∧ den ≤ 10000) (hv : v = x * num ∨ v = -(x * num)) (h0 : 0 ≤ v) (hq : q = (2 * v + den) / (2 * den)) :
    wrap64 (x * num) = x * num ∧ wrap64 (-(x * num)) = -(x * num) ∧ wrap64 (2 * v) = 2 * v ∧ wrap64 (2 * v + den) = 2 * v + den ∧ wrap64 (2 * den) = 2 * den ∧ (2 * v + den).tdiv (2 * den) = q ∧ wrap64 q = q ∧ wrap64 (-q) = -q ∧ (2 * den = 0) = False := by
  have hb := mulB (a := x) (b := num) (A := 32768) (B := 10000) ⟨hx.1, by omega⟩ hn
  have q0 : 0 ≤ q := by rw [hq]; exact Int.ediv_nonneg (by omega) (by omega)
  have q1 : q ≤ 1000000000 := by rw [hq]; exact Int.ediv_le_of_le_mul (by omega) (by omega)
  have t : (2 * v + den).tdiv (2 * den) = q := by rw [hq]; exact Int.tdiv_eq_ediv_of_nonneg (by omega)
  clear hq
  exact ⟨wrap_in (by omega) (by omega), wrap_in (by omega) (by omega), wrap_in (by omega) (by omega), wrap_in (by omega) (by omega), wrap_in (by omega) (by omega), t, wrap_in (by omega) (by omega), wrap_in (by omega) (by omega), eq_false (by omega)⟩
theorem clp_mm {h : Int} (z : Int) (hh : 1 ≤ h) : min (h - 1) (max (-h) z) = clp h z := by
  unfold clp
  repeat' split
  all_goals omega
theorem drewB {w : World} {g : Nat} {o : Obj} (h : w.heap[g]? = some o) (m : Nat) : (w.drewN m).heap[g]? = some o := by rw [World.heap_drewN]; exact h
theorem ownDrew {w : World} {B n : Nat} {v : Value} {xs : List Value} (h : w.ownsRow B 3 1 v n xs) : w.drew.ownsRow B 3 1 v n xs := h
set_option maxHeartbeats 16000000 in
set_option maxRecDepth 100000 in
theorem samp_bad (s : S) (A : Option Addr) (n c0 b o : Nat) (xs : Nat → Int) (num den : Int) (hv : vS s n xs = false) (hn : n ≤ 9223372036854775807) (hc0 : n ≤ c0) (w : World) (hA : DataAt w A n b o xs) : Gives 37 #[.agg (s.cs A n c0), iv num, iv den] w S.zero 0 (fun _ => 0) 1 := by
  unfold Gives
  have H0 := Lib.hid (show ((w.alloc (Obj.cells (s.cs A n c0) 24)).alloc (Obj.cells #[Value.string ⟨#[]⟩, Value.slice none 0 0, iv 0, iv 0, iv 0, iv 0, iv 0, iv 0, iv 0, iv 0, iv 0, iv 0, iv 0] 24)).heap[w.heap.size + 1]? = some (.cells (S.zero.cs none 0 0) 24 (0, 0)) from heap_alloc2_new w (Obj.cells (s.cs A n c0) 24) (Obj.cells #[Value.string ⟨#[]⟩, Value.slice none 0 0, iv 0, iv 0, iv 0, iv 0, iv 0, iv 0, iv 0, iv 0, iv 0, iv 0, iv 0] 24))
  have B0 : Below w.heap.size w ((w.alloc (Obj.cells (s.cs A n c0) 24)).alloc (Obj.cells #[Value.string ⟨#[]⟩, Value.slice none 0 0, iv 0, iv 0, iv 0, iv 0, iv 0, iv 0, iv 0, iv 0, iv 0, iv 0, iv 0] 24)) := ((Below.refl _ _).alloc (Nat.le_refl _) _).alloc (by simp) _
  have P0 := Lib.hid (show ((w.alloc (Obj.cells (s.cs A n c0) 24)).alloc (Obj.cells #[Value.string ⟨#[]⟩, Value.slice none 0 0, iv 0, iv 0, iv 0, iv 0, iv 0, iv 0, iv 0, iv 0, iv 0, iv 0, iv 0] 24)).heap[w.heap.size]? = some (.cells (s.cs A n c0) 24 (0, 0)) from heap_alloc2_old w _ _)
  have D0 := Lib.hid (hA.later B0)
  have VC := Lib.hid (show ∀ (W : World), DataAt W A n b o xs → Calls Try.prog 15 #[.agg (s.cs A n c0)] W fun e w' => e = .returned (.bool false) ∧ Below W.heap.size W w' from fun W h => by have := valid_any s A n c0 b o xs hn hc0 W h; rwa [hv] at this)
  clear hA hv
  go_enter Try.func37, Try.ntmps37
  go_wp2_with (first
    | (refine wpList_load_row rfl 24 (.tmp 3) rfl (w.heap.size) rfl 24 _ (0, 0) _ P0.out Try.underlying24 rfl (S.i24 _ _ _ _) ?_)
    | (go_at_call 15; (with_reducible refine (VC.out _ D0.out).mono ?_); rintro e w1 ⟨rfl, hb1⟩; have P1 := Lib.hid (bkBelow P0.out hb1); have H1 := Lib.hid (bkBelow H0.out hb1); have D1 := Lib.hid (D0.out.later hb1); have B1 := bdT B0 B0.size hb1)
    | (refine wpBuild0 rfl 24 rfl (S.zero.cs none 0 0) built24 ?_)
    | (refine wpList_store_row rfl 24 (.tmp 6) (.tmp 16) rfl (w.heap.size + 1) (S.zero.cs none 0 0) rfl rfl 24 _ H1.out (S.i24 _ _ _ _) (S.sz S.zero S.zero none none 0 0 0 0) (S.one _ _ _ _) ?_))
  refine bodyPost_ret (res_ct rfl _ _ (w.heap.size + 1) 24 _ (0, 0) _ rfl (setRow_heap _ _ _ _ _ _ H1.out) Try.underlying24 rfl (S.i24 _ _ _ _)) rfl ⟨none, 0, rfl, own0, below_setRow B1 (by omega) _⟩
set_option maxHeartbeats 16000000 in
set_option maxRecDepth 100000 in
theorem samp_rng1 (s : S) (A : Option Addr) (n c0 b o : Nat) (xs : Nat → Int) (num den : Int) (hv : vS s n xs = true) (h1 : num < -10000) (hn : n ≤ 9223372036854775807) (hc0 : n ≤ c0) (w : World) (hA : DataAt w A n b o xs) : Gives 37 #[.agg (s.cs A n c0), iv num, iv den] w S.zero 0 (fun _ => 0) 5 := by
  unfold Gives
  have H0 := Lib.hid (show ((w.alloc (Obj.cells (s.cs A n c0) 24)).alloc (Obj.cells #[Value.string ⟨#[]⟩, Value.slice none 0 0, iv 0, iv 0, iv 0, iv 0, iv 0, iv 0, iv 0, iv 0, iv 0, iv 0, iv 0] 24)).heap[w.heap.size + 1]? = some (.cells (S.zero.cs none 0 0) 24 (0, 0)) from heap_alloc2_new w (Obj.cells (s.cs A n c0) 24) (Obj.cells #[Value.string ⟨#[]⟩, Value.slice none 0 0, iv 0, iv 0, iv 0, iv 0, iv 0, iv 0, iv 0, iv 0, iv 0, iv 0, iv 0] 24))
  have B0 : Below w.heap.size w ((w.alloc (Obj.cells (s.cs A n c0) 24)).alloc (Obj.cells #[Value.string ⟨#[]⟩, Value.slice none 0 0, iv 0, iv 0, iv 0, iv 0, iv 0, iv 0, iv 0, iv 0, iv 0, iv 0, iv 0] 24)) := ((Below.refl _ _).alloc (Nat.le_refl _) _).alloc (by simp) _
  have P0 := Lib.hid (show ((w.alloc (Obj.cells (s.cs A n c0) 24)).alloc (Obj.cells #[Value.string ⟨#[]⟩, Value.slice none 0 0, iv 0, iv 0, iv 0, iv 0, iv 0, iv 0, iv 0, iv 0, iv 0, iv 0, iv 0] 24)).heap[w.heap.size]? = some (.cells (s.cs A n c0) 24 (0, 0)) from heap_alloc2_old w _ _)
  have D0 := Lib.hid (hA.later B0)
  have VC := Lib.hid (show ∀ (W : World), DataAt W A n b o xs → Calls Try.prog 15 #[.agg (s.cs A n c0)] W fun e w' => e = .returned (.bool true) ∧ Below W.heap.size W w' from fun W h => by have := valid_any s A n c0 b o xs hn hc0 W h; rwa [hv] at this)
  have d1 : decide (num < -10000) = true := decide_eq_true (by omega)
  clear hA hv
  go_enter Try.func37, Try.ntmps37
  go_wp2_with (first
    | (refine wpList_load_row rfl 24 (.tmp 3) rfl (w.heap.size) rfl 24 _ (0, 0) _ P0.out Try.underlying24 rfl (S.i24 _ _ _ _) ?_)
    | (go_at_call 15; (with_reducible refine (VC.out _ D0.out).mono ?_); rintro e w1 ⟨rfl, hb1⟩; have P1 := Lib.hid (bkBelow P0.out hb1); have H1 := Lib.hid (bkBelow H0.out hb1); have D1 := Lib.hid (D0.out.later hb1); have B1 := bdT B0 B0.size hb1)
    | (refine wpBuild0 rfl 24 rfl (S.zero.cs none 0 0) built24 ?_)
    | (refine wpList_store_row rfl 24 (.tmp 6) (.tmp 31) rfl (w.heap.size + 1) (S.zero.cs none 0 0) rfl rfl 24 _ H1.out (S.i24 _ _ _ _) (S.sz S.zero S.zero none none 0 0 0 0) (S.one _ _ _ _) ?_))
  refine bodyPost_ret (res_ct rfl _ _ (w.heap.size + 1) 24 _ (0, 0) _ rfl (setRow_heap _ _ _ _ _ _ H1.out) Try.underlying24 rfl (S.i24 _ _ _ _)) rfl ⟨none, 0, rfl, own0, below_setRow B1 (by omega) _⟩
set_option maxHeartbeats 16000000 in
set_option maxRecDepth 100000 in
theorem samp_rng2 (s : S) (A : Option Addr) (n c0 b o : Nat) (xs : Nat → Int) (num den : Int) (hv : vS s n xs = true) (h1 : -10000 ≤ num) (h2 : 10000 < num) (hn : n ≤ 9223372036854775807) (hc0 : n ≤ c0) (w : World) (hA : DataAt w A n b o xs) : Gives 37 #[.agg (s.cs A n c0), iv num, iv den] w S.zero 0 (fun _ => 0) 5 := by
  unfold Gives
  have H0 := Lib.hid (show ((w.alloc (Obj.cells (s.cs A n c0) 24)).alloc (Obj.cells #[Value.string ⟨#[]⟩, Value.slice none 0 0, iv 0, iv 0, iv 0, iv 0, iv 0, iv 0, iv 0, iv 0, iv 0, iv 0, iv 0] 24)).heap[w.heap.size + 1]? = some (.cells (S.zero.cs none 0 0) 24 (0, 0)) from heap_alloc2_new w (Obj.cells (s.cs A n c0) 24) (Obj.cells #[Value.string ⟨#[]⟩, Value.slice none 0 0, iv 0, iv 0, iv 0, iv 0, iv 0, iv 0, iv 0, iv 0, iv 0, iv 0, iv 0] 24))
  have B0 : Below w.heap.size w ((w.alloc (Obj.cells (s.cs A n c0) 24)).alloc (Obj.cells #[Value.string ⟨#[]⟩, Value.slice none 0 0, iv 0, iv 0, iv 0, iv 0, iv 0, iv 0, iv 0, iv 0, iv 0, iv 0, iv 0] 24)) := ((Below.refl _ _).alloc (Nat.le_refl _) _).alloc (by simp) _
  have P0 := Lib.hid (show ((w.alloc (Obj.cells (s.cs A n c0) 24)).alloc (Obj.cells #[Value.string ⟨#[]⟩, Value.slice none 0 0, iv 0, iv 0, iv 0, iv 0, iv 0, iv 0, iv 0, iv 0, iv 0, iv 0, iv 0] 24)).heap[w.heap.size]? = some (.cells (s.cs A n c0) 24 (0, 0)) from heap_alloc2_old w _ _)
  have D0 := Lib.hid (hA.later B0)
  have VC := Lib.hid (show ∀ (W : World), DataAt W A n b o xs → Calls Try.prog 15 #[.agg (s.cs A n c0)] W fun e w' => e = .returned (.bool true) ∧ Below W.heap.size W w' from fun W h => by have := valid_any s A n c0 b o xs hn hc0 W h; rwa [hv] at this)
  have d1 : decide (num < -10000) = false := decide_eq_false (by omega)
  have d2 : decide (10000 < num) = true := decide_eq_true (by omega)
  clear hA hv
  go_enter Try.func37, Try.ntmps37
  go_wp2_with (first
    | (refine wpList_load_row rfl 24 (.tmp 3) rfl (w.heap.size) rfl 24 _ (0, 0) _ P0.out Try.underlying24 rfl (S.i24 _ _ _ _) ?_)
    | (go_at_call 15; (with_reducible refine (VC.out _ D0.out).mono ?_); rintro e w1 ⟨rfl, hb1⟩; have P1 := Lib.hid (bkBelow P0.out hb1); have H1 := Lib.hid (bkBelow H0.out hb1); have D1 := Lib.hid (D0.out.later hb1); have B1 := bdT B0 B0.size hb1)
    | (refine wpBuild0 rfl 24 rfl (S.zero.cs none 0 0) built24 ?_)
    | (refine wpList_store_row rfl 24 (.tmp 6) (.tmp 31) rfl (w.heap.size + 1) (S.zero.cs none 0 0) rfl rfl 24 _ H1.out (S.i24 _ _ _ _) (S.sz S.zero S.zero none none 0 0 0 0) (S.one _ _ _ _) ?_))
  refine bodyPost_ret (res_ct rfl _ _ (w.heap.size + 1) 24 _ (0, 0) _ rfl (setRow_heap _ _ _ _ _ _ H1.out) Try.underlying24 rfl (S.i24 _ _ _ _)) rfl ⟨none, 0, rfl, own0, below_setRow B1 (by omega) _⟩
set_option maxHeartbeats 16000000 in
set_option maxRecDepth 100000 in
theorem samp_rng3 (s : S) (A : Option Addr) (n c0 b o : Nat) (xs : Nat → Int) (num den : Int) (hv : vS s n xs = true) (h1 : -10000 ≤ num) (h2 : num ≤ 10000) (h3 : den < 1) (hn : n ≤ 9223372036854775807) (hc0 : n ≤ c0) (w : World) (hA : DataAt w A n b o xs) : Gives 37 #[.agg (s.cs A n c0), iv num, iv den] w S.zero 0 (fun _ => 0) 5 := by
  unfold Gives
  have H0 := Lib.hid (show ((w.alloc (Obj.cells (s.cs A n c0) 24)).alloc (Obj.cells #[Value.string ⟨#[]⟩, Value.slice none 0 0, iv 0, iv 0, iv 0, iv 0, iv 0, iv 0, iv 0, iv 0, iv 0, iv 0, iv 0] 24)).heap[w.heap.size + 1]? = some (.cells (S.zero.cs none 0 0) 24 (0, 0)) from heap_alloc2_new w (Obj.cells (s.cs A n c0) 24) (Obj.cells #[Value.string ⟨#[]⟩, Value.slice none 0 0, iv 0, iv 0, iv 0, iv 0, iv 0, iv 0, iv 0, iv 0, iv 0, iv 0, iv 0] 24))
  have B0 : Below w.heap.size w ((w.alloc (Obj.cells (s.cs A n c0) 24)).alloc (Obj.cells #[Value.string ⟨#[]⟩, Value.slice none 0 0, iv 0, iv 0, iv 0, iv 0, iv 0, iv 0, iv 0, iv 0, iv 0, iv 0, iv 0] 24)) := ((Below.refl _ _).alloc (Nat.le_refl _) _).alloc (by simp) _
  have P0 := Lib.hid (show ((w.alloc (Obj.cells (s.cs A n c0) 24)).alloc (Obj.cells #[Value.string ⟨#[]⟩, Value.slice none 0 0, iv 0, iv 0, iv 0, iv 0, iv 0, iv 0, iv 0, iv 0, iv 0, iv 0, iv 0] 24)).heap[w.heap.size]? = some (.cells (s.cs A n c0) 24 (0, 0)) from heap_alloc2_old w _ _)
  have D0 := Lib.hid (hA.later B0)
  have VC := Lib.hid (show ∀ (W : World), DataAt W A n b o xs → Calls Try.prog 15 #[.agg (s.cs A n c0)] W fun e w' => e = .returned (.bool true) ∧ Below W.heap.size W w' from fun W h => by have := valid_any s A n c0 b o xs hn hc0 W h; rwa [hv] at this)
  have d1 : decide (num < -10000) = false := decide_eq_false (by omega)
  have d2 : decide (10000 < num) = false := decide_eq_false (by omega)
  have d3 : decide (den < 1) = true := decide_eq_true (by omega)
  clear hA hv
  go_enter Try.func37, Try.ntmps37
  go_wp2_with (first
    | (refine wpList_load_row rfl 24 (.tmp 3) rfl (w.heap.size) rfl 24 _ (0, 0) _ P0.out Try.underlying24 rfl (S.i24 _ _ _ _) ?_)
    | (go_at_call 15; (with_reducible refine (VC.out _ D0.out).mono ?_); rintro e w1 ⟨rfl, hb1⟩; have P1 := Lib.hid (bkBelow P0.out hb1); have H1 := Lib.hid (bkBelow H0.out hb1); have D1 := Lib.hid (D0.out.later hb1); have B1 := bdT B0 B0.size hb1)
    | (refine wpBuild0 rfl 24 rfl (S.zero.cs none 0 0) built24 ?_)
    | (refine wpList_store_row rfl 24 (.tmp 6) (.tmp 31) rfl (w.heap.size + 1) (S.zero.cs none 0 0) rfl rfl 24 _ H1.out (S.i24 _ _ _ _) (S.sz S.zero S.zero none none 0 0 0 0) (S.one _ _ _ _) ?_))
  refine bodyPost_ret (res_ct rfl _ _ (w.heap.size + 1) 24 _ (0, 0) _ rfl (setRow_heap _ _ _ _ _ _ H1.out) Try.underlying24 rfl (S.i24 _ _ _ _)) rfl ⟨none, 0, rfl, own0, below_setRow B1 (by omega) _⟩
set_option maxHeartbeats 16000000 in
set_option maxRecDepth 100000 in
theorem samp_rng4 (s : S) (A : Option Addr) (n c0 b o : Nat) (xs : Nat → Int) (num den : Int) (hv : vS s n xs = true) (h1 : -10000 ≤ num) (h2 : num ≤ 10000) (h3 : 1 ≤ den) (h4 : 10000 < den) (hn : n ≤ 9223372036854775807) (hc0 : n ≤ c0) (w : World) (hA : DataAt w A n b o xs) : Gives 37 #[.agg (s.cs A n c0), iv num, iv den] w S.zero 0 (fun _ => 0) 5 := by
  unfold Gives
  have H0 := Lib.hid (show ((w.alloc (Obj.cells (s.cs A n c0) 24)).alloc (Obj.cells #[Value.string ⟨#[]⟩, Value.slice none 0 0, iv 0, iv 0, iv 0, iv 0, iv 0, iv 0, iv 0, iv 0, iv 0, iv 0, iv 0] 24)).heap[w.heap.size + 1]? = some (.cells (S.zero.cs none 0 0) 24 (0, 0)) from heap_alloc2_new w (Obj.cells (s.cs A n c0) 24) (Obj.cells #[Value.string ⟨#[]⟩, Value.slice none 0 0, iv 0, iv 0, iv 0, iv 0, iv 0, iv 0, iv 0, iv 0, iv 0, iv 0, iv 0] 24))
  have B0 : Below w.heap.size w ((w.alloc (Obj.cells (s.cs A n c0) 24)).alloc (Obj.cells #[Value.string ⟨#[]⟩, Value.slice none 0 0, iv 0, iv 0, iv 0, iv 0, iv 0, iv 0, iv 0, iv 0, iv 0, iv 0, iv 0] 24)) := ((Below.refl _ _).alloc (Nat.le_refl _) _).alloc (by simp) _
  have P0 := Lib.hid (show ((w.alloc (Obj.cells (s.cs A n c0) 24)).alloc (Obj.cells #[Value.string ⟨#[]⟩, Value.slice none 0 0, iv 0, iv 0, iv 0, iv 0, iv 0, iv 0, iv 0, iv 0, iv 0, iv 0, iv 0] 24)).heap[w.heap.size]? = some (.cells (s.cs A n c0) 24 (0, 0)) from heap_alloc2_old w _ _)
  have D0 := Lib.hid (hA.later B0)
  have VC := Lib.hid (show ∀ (W : World), DataAt W A n b o xs → Calls Try.prog 15 #[.agg (s.cs A n c0)] W fun e w' => e = .returned (.bool true) ∧ Below W.heap.size W w' from fun W h => by have := valid_any s A n c0 b o xs hn hc0 W h; rwa [hv] at this)
  have d1 : decide (num < -10000) = false := decide_eq_false (by omega)
  have d2 : decide (10000 < num) = false := decide_eq_false (by omega)
  have d3 : decide (den < 1) = false := decide_eq_false (by omega)
  have d4 : decide (10000 < den) = true := decide_eq_true (by omega)
  clear hA hv
  go_enter Try.func37, Try.ntmps37
  go_wp2_with (first
    | (refine wpList_load_row rfl 24 (.tmp 3) rfl (w.heap.size) rfl 24 _ (0, 0) _ P0.out Try.underlying24 rfl (S.i24 _ _ _ _) ?_)
    | (go_at_call 15; (with_reducible refine (VC.out _ D0.out).mono ?_); rintro e w1 ⟨rfl, hb1⟩; have P1 := Lib.hid (bkBelow P0.out hb1); have H1 := Lib.hid (bkBelow H0.out hb1); have D1 := Lib.hid (D0.out.later hb1); have B1 := bdT B0 B0.size hb1)
    | (refine wpBuild0 rfl 24 rfl (S.zero.cs none 0 0) built24 ?_)
    | (refine wpList_store_row rfl 24 (.tmp 6) (.tmp 31) rfl (w.heap.size + 1) (S.zero.cs none 0 0) rfl rfl 24 _ H1.out (S.i24 _ _ _ _) (S.sz S.zero S.zero none none 0 0 0 0) (S.one _ _ _ _) ?_))
  refine bodyPost_ret (res_ct rfl _ _ (w.heap.size + 1) 24 _ (0, 0) _ rfl (setRow_heap _ _ _ _ _ _ H1.out) Try.underlying24 rfl (S.i24 _ _ _ _)) rfl ⟨none, 0, rfl, own0, below_setRow B1 (by omega) _⟩
theorem ownDrewN {w : World} {B n : Nat} {v : Value} {xs : List Value} (h : w.ownsRow B 3 1 v n xs) (m : Nat) : (w.drewN m).ownsRow B 3 1 v n xs := by
  refine ⟨h.1, ?_⟩
  rcases h.2 with h' | ⟨g', cap', cur, h', h1, hg, h2⟩
  · exact .inl h'
  · exact .inr ⟨g', cap', cur, h', h1, drewB hg m, h2⟩
set_option maxHeartbeats 16000000 in
set_option maxRecDepth 100000 in
theorem samp_ok (s : S) (A : Option Addr) (n c0 b o : Nat) (xs : Nat → Int) (num den : Int) (h1 : -10000 ≤ num) (h2 : num ≤ 10000) (h3 : 1 ≤ den) (h4 : den ≤ 10000) (hv : vS s n xs = true) (hn : n ≤ 9223372036854775807) (hc0 : n ≤ c0) (w : World) (hA : DataAt w A n b o xs) : Gives 37 #[.agg (s.cs A n c0), iv num, iv den] w s n (ampF s.a2 num den xs) 0 := by
  unfold Gives
  have H0 := Lib.hid (show ((w.alloc (Obj.cells (s.cs A n c0) 24)).alloc (Obj.cells #[Value.string ⟨#[]⟩, Value.slice none 0 0, iv 0, iv 0, iv 0, iv 0, iv 0, iv 0, iv 0, iv 0, iv 0, iv 0, iv 0] 24)).heap[w.heap.size + 1]? = some (.cells (S.zero.cs none 0 0) 24 (0, 0)) from heap_alloc2_new w (Obj.cells (s.cs A n c0) 24) (Obj.cells #[Value.string ⟨#[]⟩, Value.slice none 0 0, iv 0, iv 0, iv 0, iv 0, iv 0, iv 0, iv 0, iv 0, iv 0, iv 0, iv 0] 24))
  have B0 : Below w.heap.size w ((w.alloc (Obj.cells (s.cs A n c0) 24)).alloc (Obj.cells #[Value.string ⟨#[]⟩, Value.slice none 0 0, iv 0, iv 0, iv 0, iv 0, iv 0, iv 0, iv 0, iv 0, iv 0, iv 0, iv 0] 24)) := ((Below.refl _ _).alloc (Nat.le_refl _) _).alloc (by simp) _
  have P0 := Lib.hid (show ((w.alloc (Obj.cells (s.cs A n c0) 24)).alloc (Obj.cells #[Value.string ⟨#[]⟩, Value.slice none 0 0, iv 0, iv 0, iv 0, iv 0, iv 0, iv 0, iv 0, iv 0, iv 0, iv 0, iv 0] 24)).heap[w.heap.size]? = some (.cells (s.cs A n c0) 24 (0, 0)) from heap_alloc2_old w _ _)
  have D0 := Lib.hid (hA.later B0)
  have VC := Lib.hid (show ∀ (W : World), DataAt W A n b o xs → Calls Try.prog 15 #[.agg (s.cs A n c0)] W fun e w' => e = .returned (.bool true) ∧ Below W.heap.size W w' from fun W h => by have := valid_any s A n c0 b o xs hn hc0 W h; rwa [hv] at this)
  obtain ⟨_, _, n4, _, _, _, l7, l10⟩ := vS_yes hv
  unfold LpOk at l7 l10
  have HN := Lib.hid n4
  have HX := Lib.hid (vS_frames hv)
  have HBT : Bits s.a2 (hb s.a2) := by
    rcases (vS_yes hv).2.1 with e | e
    · rw [e]; exact .inl ⟨rfl, rfl⟩
    · rw [e]; exact .inr ⟨rfl, rfl⟩
  have HBD := bits_bd HBT
  generalize hh : hb s.a2 = h at *
  have HHH := Lib.hid hh
  have LC := Lib.hid fun W => slimit_any s.a2 h HBT W
  have HNUM := Lib.hid (show (-10000 ≤ num ∧ num ≤ 10000) ∧ (1 ≤ den ∧ den ≤ 10000) from ⟨⟨h1, h2⟩, h3, h4⟩)
  have HBH := Lib.hid HBD
  have OC := Lib.hid fun (W : World) (h : DataAt W A n b o xs) => own_any s A n c0 b o xs (by omega) W h
  have d1 : decide (num < -10000) = false := decide_eq_false (by omega)
  have d2 : decide (10000 < num) = false := decide_eq_false (by omega)
  have d3 : decide (den < 1) = false := decide_eq_false (by omega)
  have d4 : decide (10000 < den) = false := decide_eq_false (by omega)
  clear hA hv l7 l10 HBT HBD hh h1 h2 h3 h4
  go_enter Try.func37, Try.ntmps37
  go_upto_region 5 with (first
    | (refine wpList_load_row rfl 24 (.tmp 3) rfl (w.heap.size) rfl 24 _ (0, 0) _ P0.out Try.underlying24 rfl (S.i24 _ _ _ _) ?_)
    | (go_at_call 15; (with_reducible refine (VC.out _ D0.out).mono ?_); rintro e w1 ⟨rfl, hb1⟩; have P1 := Lib.hid (bkBelow P0.out hb1); have H1 := Lib.hid (bkBelow H0.out hb1); have D1 := Lib.hid (D0.out.later hb1); have B1 := bdT B0 B0.size hb1))
  clear d1 d2 d3 d4
  have HP := Lib.hid (bkLt P1.out)
  have HH := Lib.hid (bkLt H1.out)
  go_upto_region 6 with (first
    | (refine wpList_load_row rfl 24 (.tmp 3) rfl (w.heap.size) rfl 24 _ (0, 0) _ P1.out Try.underlying24 rfl (S.i24 _ _ _ _) ?_)
    | (go_at_call 74; (with_reducible refine (OC.out _ D1.out).mono ?_); rintro e w2 ⟨A', c', rfl, hO2, hb2⟩; have P2 := Lib.hid (bkBelow P1.out hb2); have H2 := Lib.hid (bkBelow H1.out hb2); have B2 := bdT B1 B1.size hb2; have O2 := Lib.hid hO2; clear hO2 hb2)
    | (refine wpList_store_row rfl 24 (.tmp 3) (.tmp 33) rfl (w.heap.size) (s.cs A' n c') rfl rfl 24 _ P2.out (S.i24 _ _ _ _) (S.sz s s A A' n c0 n c') (S.one _ _ _ _) ?_))
  have P3 := Lib.hid (setRow_heap _ _ _ (s.cs A' n c') _ _ P2.out)
  have H3 := Lib.hid ((setRow_other w2 w.heap.size (w.heap.size + 1) (s.cs A' n c') (by omega)).trans H2.out)
  have O3 := Lib.hid (ownVR O2.out HP.out (s.cs A' n c'))
  have B3 := below_setRow B2 (Nat.le_refl _) (s.cs A' n c')
  clear P2 H2 O2 B2 P0 H0 D0 B0 H1 D1 B1
  generalize w2.setRow w.heap.size (s.cs A' n c') = w3 at *
  have p2 := (bkCell P3.out 2).trans (show _ = some (iv s.a2) from rfl)
  go_upto_region 7 with (go_at_call 58; (with_reducible refine (LC.out _).mono ?_); rintro e w4 ⟨rfl, m4, rfl⟩)
  clear p2
  have P4 := Lib.hid (drewB P3.out m4)
  have H4 := Lib.hid (drewB H3.out m4)
  have O4 := Lib.hid (show (w3.drewN m4).ownsRow w1.heap.size 3 1 (.slice A' n c') n (rw_ xs n) from ownDrewN O3.out m4)
  have B4 := bdN B3 m4
  have p1 := (bkCell P4.out 1).trans (show _ = some (Value.slice A' n c') from rfl)
  clear P3 H3 O3 B3
  go_upto_region 8 with (fail)
  clear p1
  go_loopw [43] (fun v wr => ∃ j : Nat, j ≤ n ∧ v = iv j ∧ wr.heap[w.heap.size]? = some (.cells (s.cs A' n c') 24 (0, 0)) ∧ wr.heap[w.heap.size + 1]? = some (.cells (S.zero.cs none 0 0) 24 (0, 0)) ∧ wr.ownsRow w1.heap.size 3 1 (.slice A' n c') n (rw_ (upF (ampX s.a2 num den) xs j) n) ∧ Below w.heap.size w wr) (fun v _ => n - (intOf v).toNat)
  case atStart => exact ⟨0, by omega, rfl, P4.out, H4.out, ownN O4.out (by rw [upF_zero]), B4⟩
  case round =>
    clear P4 H4 B4
    obtain ⟨j, hj, rfl, hP, hH, hO, hB⟩ := hrel
    have NP := Lib.hid hP
    have NH := Lib.hid hH
    have NO := Lib.hid hO
    have l3 : (0 : Int) ≤ (j : Int) := by omega
    clear hP hH hO
    by_cases hlt : j < n
    · have l4 : (j : Int) < (n : Int) := by omega
      obtain ⟨A2, c2, g, e, hd, hform⟩ := ownDataV NO.out
      obtain ⟨rfl, rfl⟩ : A' = A2 ∧ c' = c2 := by simp only [Value.slice.injEq] at e; exact ⟨e.1, e.2.2⟩
      obtain ⟨rfl, hg⟩ : A' = some ⟨g, 0, none⟩ ∧ w1.heap.size ≤ g := by
        rcases hform with h | h
        · omega
        · exact h
      have HG := Lib.hid hg
      have s4 : wr.cell? ⟨g, j, none⟩ = some (iv (xs j)) := ((NO.out.cellAt j (by omega)).trans (rw_at _ n j hlt)).trans (by rw [upF_at])
      clear hd hform hg e
      generalize hx : xs j = x at s4
      have HXJ := Lib.hid hx
      have bx := HX.out j hlt
      rw [hx] at bx
      clear hx
      have p1 := (bkCell NP.out 1).trans (show _ = some (Value.slice (some ⟨g, 0, none⟩) n c') from rfl)
      by_cases h0 : x * num < 0
      · have e0 : decide (x * num < 0) = true := decide_eq_true (by omega)
        have hf := amp_facts (x := x) (num := num) (den := den) (v := -(x * num)) (q := (2 * -(x * num) + den) / (2 * den)) bx HNUM.out.1 HNUM.out.2 (.inr rfl) (by omega) rfl
        have HQ := Lib.hid (show clp h (-((2 * -(x * num) + den) / (2 * den))) = ampX s.a2 num den x from by unfold ampX nr; rw [HHH.out, if_pos (by omega), show -2 * (x * num) = 2 * -(x * num) by omega])
        obtain ⟨f1, f2, hf⟩ := hf
        obtain ⟨v, hvv⟩ : ∃ v, -(x * num) = v := ⟨_, rfl⟩
        replace f2 := f2.trans hvv
        rw [hvv] at hf HQ
        have HV0 := Lib.hid hvv
        generalize hqq : (2 * v + den) / (2 * den) = q at *
        clear hqq hvv h0 bx
        obtain ⟨f3, f4, f5, f6, f7, f8, f9⟩ := hf
        go_upto_region 14 with (fail)
        clear p1 e0
        refine start_ (n := 18) (S := fun w' => w'.heap[w.heap.size]? = some (.cells (s.cs (some ⟨g, 0, none⟩) n c') 24 (0, 0)) ∧ w'.heap[w.heap.size + 1]? = some (.cells (S.zero.cs none 0 0) 24 (0, 0)) ∧ w'.cell? ⟨g, j, none⟩ = some (iv x) ∧ w'.ownsRow w1.heap.size 3 1 (.slice (some ⟨g, 0, none⟩) n c') n (rw_ (upF (ampX s.a2 num den) xs j) n) ∧ Below w.heap.size w w') (ds := [17]) #[false, false, false, false, false, false, false, false, false, false, false, false, false, false, false, false, false, false] (by kernel_rfl) rfl rfl ⟨NP.out, NH.out, s4, NO.out.drew, hB.drew⟩ (fun hHeld => ?_)
        refine pure_ (i := 0) (N := some 55) (v := ?_) (a' := ?_) #[true, false, false, false, false, false, false, false, false, false, false, false, false, false, false, false, false, false] rfl rfl (by kernel_rfl) (fun _ _ _ h => h) (Or.inl ⟨by rfl, ?_⟩) ?_ ?_
        rotate_left
        · intro w'
          go_simp
          with_reducible rfl
        rotate_left
        · simp only [Act.put, List.setIfInBounds_toArray, List.set_cons_zero, List.set_cons_succ, i64_w, i32_w, f3, f4, f5, f6, f7, f8, f9]
          rfl
        refine pure_ (i := 2) (N := some 57) (v := ?_) (a' := ?_) #[true, false, true, false, false, false, false, false, false, false, false, false, false, false, false, false, false, false] rfl rfl (by kernel_rfl) (fun _ _ _ h => h) (Or.inl ⟨by rfl, ?_⟩) ?_ ?_
        rotate_left
        · intro w'
          go_simp
          with_reducible rfl
        rotate_left
        · simp only [Act.put, List.setIfInBounds_toArray, List.set_cons_zero, List.set_cons_succ, i64_w, i32_w, f3, f4, f5, f6, f7, f8, f9]
          rfl
        refine pure_ (i := 3) (N := some 58) (v := ?_) (a' := ?_) #[true, false, true, true, false, false, false, false, false, false, false, false, false, false, false, false, false, false] rfl rfl (by kernel_rfl) (fun _ _ _ h => h) (Or.inl ⟨by rfl, ?_⟩) ?_ ?_
        rotate_left
        · intro w'
          go_simp
          with_reducible rfl
        rotate_left
        · simp only [Act.put, List.setIfInBounds_toArray, List.set_cons_zero, List.set_cons_succ, i64_w, i32_w, f3, f4, f5, f6, f7, f8, f9]
          rfl
        refine pure_ (i := 4) (N := some 59) (v := ?_) (a' := ?_) #[true, false, true, true, true, false, false, false, false, false, false, false, false, false, false, false, false, false] rfl rfl (by kernel_rfl) (fun _ _ _ h => h) (Or.inl ⟨by rfl, ?_⟩) ?_ ?_
        rotate_left
        · intro w'
          go_simp
          with_reducible rfl
        rotate_left
        · simp only [Act.put, List.setIfInBounds_toArray, List.set_cons_zero, List.set_cons_succ, i64_w, i32_w, f3, f4, f5, f6, f7, f8, f9]
          rfl
        refine pure_ (i := 5) (N := some 60) (v := ?_) (a' := ?_) #[true, false, true, true, true, true, false, false, false, false, false, false, false, false, false, false, false, false] rfl rfl (by kernel_rfl) (fun _ _ _ h => h) (Or.inl ⟨by rfl, ?_⟩) ?_ ?_
        rotate_left
        · intro w'
          go_simp
          with_reducible rfl
        rotate_left
        · simp only [Act.put, List.setIfInBounds_toArray, List.set_cons_zero, List.set_cons_succ, i64_w, i32_w, f3, f4, f5, f6, f7, f8, f9]
          rfl
        refine pure_ (i := 6) (N := some 61) (v := ?_) (a' := ?_) #[true, false, true, true, true, true, true, false, false, false, false, false, false, false, false, false, false, false] rfl rfl (by kernel_rfl) (fun _ _ _ h => h) (Or.inl ⟨by rfl, ?_⟩) ?_ ?_
        rotate_left
        · intro w'
          go_simp
          with_reducible rfl
        rotate_left
        · simp only [Act.put, List.setIfInBounds_toArray, List.set_cons_zero, List.set_cons_succ, i64_w, i32_w, f3, f4, f5, f6, f7, f8, f9]
          rfl
        refine pure_ (i := 7) (N := some 62) (v := ?_) (a' := ?_) #[true, false, true, true, true, true, true, true, false, false, false, false, false, false, false, false, false, false] rfl rfl (by kernel_rfl) (fun _ _ _ h => h) (Or.inl ⟨by rfl, ?_⟩) ?_ ?_
        rotate_left
        · intro w'
          go_simp
          with_reducible rfl
        rotate_left
        · simp only [Act.put, List.setIfInBounds_toArray, List.set_cons_zero, List.set_cons_succ, i64_w, i32_w, f3, f4, f5, f6, f7, f8, f9]
          rfl
        refine pure_ (i := 8) (N := some 63) (v := ?_) (a' := ?_) #[true, false, true, true, true, true, true, true, true, false, false, false, false, false, false, false, false, false] rfl rfl (by kernel_rfl) (fun _ _ _ h => h) (Or.inl ⟨by rfl, ?_⟩) ?_ ?_
        rotate_left
        · intro w'
          go_simp
          with_reducible rfl
        rotate_left
        · simp only [Act.put, List.setIfInBounds_toArray, List.set_cons_zero, List.set_cons_succ, i64_w, i32_w, f3, f4, f5, f6, f7, f8, f9]
          rfl
        refine pure_ (i := 9) (N := some 64) (v := ?_) (a' := ?_) #[true, false, true, true, true, true, true, true, true, true, false, false, false, false, false, false, false, false] rfl rfl (by kernel_rfl) (fun _ _ _ h => h) (Or.inl ⟨by rfl, ?_⟩) ?_ ?_
        rotate_left
        · intro w'
          go_simp
          with_reducible rfl
        rotate_left
        · simp only [Act.put, List.setIfInBounds_toArray, List.set_cons_zero, List.set_cons_succ, i64_w, i32_w, f3, f4, f5, f6, f7, f8, f9]
          rfl
        refine pure_ (i := 10) (N := some 65) (v := ?_) (a' := ?_) #[true, false, true, true, true, true, true, true, true, true, true, false, false, false, false, false, false, false] rfl rfl (by kernel_rfl) (fun _ _ _ h => h) (Or.inl ⟨by rfl, ?_⟩) ?_ ?_
        rotate_left
        · intro w'
          go_simp
          with_reducible rfl
        rotate_left
        · simp only [Act.put, List.setIfInBounds_toArray, List.set_cons_zero, List.set_cons_succ, i64_w, i32_w, f3, f4, f5, f6, f7, f8, f9]
          rfl
        refine pure_ (i := 11) (N := some 66) (v := ?_) (a' := ?_) #[true, false, true, true, true, true, true, true, true, true, true, true, false, false, false, false, false, false] rfl rfl (by kernel_rfl) (fun _ _ _ h => h) (Or.inl ⟨by rfl, ?_⟩) ?_ ?_
        rotate_left
        · intro w'
          go_simp
          with_reducible rfl
        rotate_left
        · simp only [Act.put, List.setIfInBounds_toArray, List.set_cons_zero, List.set_cons_succ, i64_w, i32_w, f3, f4, f5, f6, f7, f8, f9]
          rfl
        refine pure_ (i := 12) (N := some 67) (v := ?_) (a' := ?_) #[true, false, true, true, true, true, true, true, true, true, true, true, true, false, false, false, false, false] rfl rfl (by kernel_rfl) (fun _ _ _ h => h) (Or.inl ⟨by rfl, ?_⟩) ?_ ?_
        rotate_left
        · intro w'
          go_simp
          with_reducible rfl
        rotate_left
        · simp only [Act.put, List.setIfInBounds_toArray, List.set_cons_zero, List.set_cons_succ, i64_w, i32_w, f3, f4, f5, f6, f7, f8, f9]
          rfl
        refine pure_ (i := 13) (N := some 68) (v := ?_) (a' := ?_) #[true, false, true, true, true, true, true, true, true, true, true, true, true, true, false, false, false, false] rfl rfl (by kernel_rfl) (fun _ _ _ h => h) (Or.inl ⟨by rfl, ?_⟩) ?_ ?_
        rotate_left
        · intro w'
          go_simp
          with_reducible rfl
        rotate_left
        · simp only [Act.put, List.setIfInBounds_toArray, List.set_cons_zero, List.set_cons_succ, i64_w, i32_w, f3, f4, f5, f6, f7, f8, f9]
          rfl
        refine pure_ (i := 14) (N := some 69) (v := ?_) (a' := ?_) #[true, false, true, true, true, true, true, true, true, true, true, true, true, true, true, false, false, false] rfl rfl (by kernel_rfl) (fun _ _ _ h => h) (Or.inl ⟨by rfl, ?_⟩) ?_ ?_
        rotate_left
        · intro w'
          go_simp
          with_reducible rfl
        rotate_left
        · simp only [Act.put, List.setIfInBounds_toArray, List.set_cons_zero, List.set_cons_succ, i64_w, i32_w, f3, f4, f5, f6, f7, f8, f9]
          rfl
        refine pure_ (i := 15) (N := some 70) (v := ?_) (a' := ?_) #[true, false, true, true, true, true, true, true, true, true, true, true, true, true, true, true, false, false] rfl rfl (by kernel_rfl) (fun _ _ _ h => h) (Or.inl ⟨by rfl, ?_⟩) ?_ ?_
        rotate_left
        · intro w'
          go_simp
          with_reducible rfl
        rotate_left
        · simp only [Act.put, List.setIfInBounds_toArray, List.set_cons_zero, List.set_cons_succ, i64_w, i32_w, f3, f4, f5, f6, f7, f8, f9]
          rfl
        refine take_ (i := 1) (N := some 56) (v := ?_) (a' := ?_) #[true, true, true, true, true, true, true, true, true, true, true, true, true, true, true, true, false, false] rfl rfl (by kernel_rfl) (fun _ _ _ h => h) (Or.inl ⟨by rfl, ?_⟩) hHeld ?_ ?_
        rotate_left
        · rintro w' ⟨s0, s1, s2, s3, s4⟩
          have q1 := (bkCell s0 1).trans (show _ = some (Value.slice (some ⟨g, 0, none⟩) n c') from rfl)
          clear s0 s1 s2 s3 s4
          go_simp
          with_reducible rfl
        rotate_left
        · simp only [Act.put, List.setIfInBounds_toArray, List.set_cons_zero, List.set_cons_succ, i64_w, i32_w, f3, f4, f5, f6, f7, f8, f9]
          rfl
        refine pure_ (i := 16) (N := some 71) (v := ?_) (a' := ?_) #[true, true, true, true, true, true, true, true, true, true, true, true, true, true, true, true, true, false] rfl rfl (by kernel_rfl) (fun _ _ _ h => h) (Or.inl ⟨by rfl, ?_⟩) ?_ ?_
        rotate_left
        · intro w'
          go_simp
          with_reducible rfl
        rotate_left
        · simp only [Act.put, List.setIfInBounds_toArray, List.set_cons_zero, List.set_cons_succ, i64_w, i32_w, f3, f4, f5, f6, f7, f8, f9]
          rfl
        refine last_ (i := 17) (N := none) #[true, true, true, true, true, true, true, true, true, true, true, true, true, true, true, true, true, true] rfl rfl (by kernel_rfl) (by decide) (fun K hK => ?_)
        obtain ⟨P5, H5, s5, O5, B5⟩ := hHeld
        have z5 := O5.frozenAt j
        have N5 := Lib.hid (And.intro P5 (And.intro H5 (And.intro O5 B5)))
        clear P5 H5 O5 B5
        refine skip_ (w1 := ?_) (by rfl) rfl ?_ ?_
        rotate_left
        · go_simp
          rfl
        refine hK.out _ _ ?_
        clear hK K
        refine done_ (by kernel_rfl) ?_
        have hV : min (h - 1) (-min h q) = ampX s.a2 num den x := (show min (h - 1) (-min h q) = min (h - 1) (max (-h) (-q)) by rw [show -min h q = max (-h) (-q) by clear f3 f4 f5 f6 f7 f8 f9; omega]).trans <| (clp_mm _ HBH.out.1).trans HQ.out
        rw [hV]
        obtain ⟨P5, H5, O5, B5⟩ := N5.out
        have hG := HG.out
        have hP := HP.out
        have hH := HH.out
        clear f3 f4 f5 f6 f7 f8 f9 hV
        have P6 := Lib.hid (bkFar P5 (p := ⟨g, j, none⟩) (by simp; omega) (iv (ampX s.a2 num den x)))
        have H6 := Lib.hid (bkFar H5 (p := ⟨g, j, none⟩) (by simp; omega) (iv (ampX s.a2 num den x)))
        have O6 := Lib.hid (ownN (O5.stored j (iv (ampX s.a2 num den x))).1 ((rw_set _ n j _).trans ((show rw_ _ n = rw_ (fun i => if i = j then ampX s.a2 num den (xs j) else upF (ampX s.a2 num den) xs j i) n by rw [HXJ.out]).trans (upF_step (ampX s.a2 num den) xs n j))))
        have B6 := B5.setCell (p := ⟨g, j, none⟩) (by simp; omega) (iv (ampX s.a2 num den x))
        clear P5 H5 O5 B5 s5 z5 N5 hG hP hH HQ
        go_wp2
        exact ⟨⟨j + 1, by omega, by go_num, P6.out, H6.out, O6.out, B6⟩, by simp [intOf]; omega⟩
      · have e0 : decide (x * num < 0) = false := decide_eq_false (by omega)
        have hf := amp_facts (x := x) (num := num) (den := den) (v := (x * num)) (q := (2 * (x * num) + den) / (2 * den)) bx HNUM.out.1 HNUM.out.2 (.inl rfl) (by omega) rfl
        have HQ := Lib.hid (show clp h (((2 * (x * num) + den) / (2 * den))) = ampX s.a2 num den x from by unfold ampX nr; rw [HHH.out, if_neg (by omega)])
        obtain ⟨f1, f2, hf⟩ := hf
        generalize hqq : (2 * (x * num) + den) / (2 * den) = q at *
        clear hqq h0 bx
        obtain ⟨f3, f4, f5, f6, f7, f8, f9⟩ := hf
        go_upto_region 14 with (fail)
        clear p1 e0
        refine start_ (n := 18) (S := fun w' => w'.heap[w.heap.size]? = some (.cells (s.cs (some ⟨g, 0, none⟩) n c') 24 (0, 0)) ∧ w'.heap[w.heap.size + 1]? = some (.cells (S.zero.cs none 0 0) 24 (0, 0)) ∧ w'.cell? ⟨g, j, none⟩ = some (iv x) ∧ w'.ownsRow w1.heap.size 3 1 (.slice (some ⟨g, 0, none⟩) n c') n (rw_ (upF (ampX s.a2 num den) xs j) n) ∧ Below w.heap.size w w') (ds := [17]) #[false, false, false, false, false, false, false, false, false, false, false, false, false, false, false, false, false, false] (by kernel_rfl) rfl rfl ⟨NP.out, NH.out, s4, NO.out.drew, hB.drew⟩ (fun hHeld => ?_)
        refine pure_ (i := 0) (N := some 55) (v := ?_) (a' := ?_) #[true, false, false, false, false, false, false, false, false, false, false, false, false, false, false, false, false, false] rfl rfl (by kernel_rfl) (fun _ _ _ h => h) (Or.inl ⟨by rfl, ?_⟩) ?_ ?_
        rotate_left
        · intro w'
          go_simp
          with_reducible rfl
        rotate_left
        · simp only [Act.put, List.setIfInBounds_toArray, List.set_cons_zero, List.set_cons_succ, i64_w, i32_w, f3, f4, f5, f6, f7, f8, f9]
          rfl
        refine pure_ (i := 2) (N := some 57) (v := ?_) (a' := ?_) #[true, false, true, false, false, false, false, false, false, false, false, false, false, false, false, false, false, false] rfl rfl (by kernel_rfl) (fun _ _ _ h => h) (Or.inl ⟨by rfl, ?_⟩) ?_ ?_
        rotate_left
        · intro w'
          go_simp
          with_reducible rfl
        rotate_left
        · simp only [Act.put, List.setIfInBounds_toArray, List.set_cons_zero, List.set_cons_succ, i64_w, i32_w, f3, f4, f5, f6, f7, f8, f9]
          rfl
        refine pure_ (i := 3) (N := some 58) (v := ?_) (a' := ?_) #[true, false, true, true, false, false, false, false, false, false, false, false, false, false, false, false, false, false] rfl rfl (by kernel_rfl) (fun _ _ _ h => h) (Or.inl ⟨by rfl, ?_⟩) ?_ ?_
        rotate_left
        · intro w'
          go_simp
          with_reducible rfl
        rotate_left
        · simp only [Act.put, List.setIfInBounds_toArray, List.set_cons_zero, List.set_cons_succ, i64_w, i32_w, f3, f4, f5, f6, f7, f8, f9]
          rfl
        refine pure_ (i := 4) (N := some 59) (v := ?_) (a' := ?_) #[true, false, true, true, true, false, false, false, false, false, false, false, false, false, false, false, false, false] rfl rfl (by kernel_rfl) (fun _ _ _ h => h) (Or.inl ⟨by rfl, ?_⟩) ?_ ?_
        rotate_left
        · intro w'
          go_simp
          with_reducible rfl
        rotate_left
        · simp only [Act.put, List.setIfInBounds_toArray, List.set_cons_zero, List.set_cons_succ, i64_w, i32_w, f3, f4, f5, f6, f7, f8, f9]
          rfl
        refine pure_ (i := 5) (N := some 60) (v := ?_) (a' := ?_) #[true, false, true, true, true, true, false, false, false, false, false, false, false, false, false, false, false, false] rfl rfl (by kernel_rfl) (fun _ _ _ h => h) (Or.inl ⟨by rfl, ?_⟩) ?_ ?_
        rotate_left
        · intro w'
          go_simp
          with_reducible rfl
        rotate_left
        · simp only [Act.put, List.setIfInBounds_toArray, List.set_cons_zero, List.set_cons_succ, i64_w, i32_w, f3, f4, f5, f6, f7, f8, f9]
          rfl
        refine pure_ (i := 6) (N := some 61) (v := ?_) (a' := ?_) #[true, false, true, true, true, true, true, false, false, false, false, false, false, false, false, false, false, false] rfl rfl (by kernel_rfl) (fun _ _ _ h => h) (Or.inl ⟨by rfl, ?_⟩) ?_ ?_
        rotate_left
        · intro w'
          go_simp
          with_reducible rfl
        rotate_left
        · simp only [Act.put, List.setIfInBounds_toArray, List.set_cons_zero, List.set_cons_succ, i64_w, i32_w, f3, f4, f5, f6, f7, f8, f9]
          rfl
        refine pure_ (i := 7) (N := some 62) (v := ?_) (a' := ?_) #[true, false, true, true, true, true, true, true, false, false, false, false, false, false, false, false, false, false] rfl rfl (by kernel_rfl) (fun _ _ _ h => h) (Or.inl ⟨by rfl, ?_⟩) ?_ ?_
        rotate_left
        · intro w'
          go_simp
          with_reducible rfl
        rotate_left
        · simp only [Act.put, List.setIfInBounds_toArray, List.set_cons_zero, List.set_cons_succ, i64_w, i32_w, f3, f4, f5, f6, f7, f8, f9]
          rfl
        refine pure_ (i := 8) (N := some 63) (v := ?_) (a' := ?_) #[true, false, true, true, true, true, true, true, true, false, false, false, false, false, false, false, false, false] rfl rfl (by kernel_rfl) (fun _ _ _ h => h) (Or.inl ⟨by rfl, ?_⟩) ?_ ?_
        rotate_left
        · intro w'
          go_simp
          with_reducible rfl
        rotate_left
        · simp only [Act.put, List.setIfInBounds_toArray, List.set_cons_zero, List.set_cons_succ, i64_w, i32_w, f3, f4, f5, f6, f7, f8, f9]
          rfl
        refine pure_ (i := 9) (N := some 64) (v := ?_) (a' := ?_) #[true, false, true, true, true, true, true, true, true, true, false, false, false, false, false, false, false, false] rfl rfl (by kernel_rfl) (fun _ _ _ h => h) (Or.inl ⟨by rfl, ?_⟩) ?_ ?_
        rotate_left
        · intro w'
          go_simp
          with_reducible rfl
        rotate_left
        · simp only [Act.put, List.setIfInBounds_toArray, List.set_cons_zero, List.set_cons_succ, i64_w, i32_w, f3, f4, f5, f6, f7, f8, f9]
          rfl
        refine pure_ (i := 10) (N := some 65) (v := ?_) (a' := ?_) #[true, false, true, true, true, true, true, true, true, true, true, false, false, false, false, false, false, false] rfl rfl (by kernel_rfl) (fun _ _ _ h => h) (Or.inl ⟨by rfl, ?_⟩) ?_ ?_
        rotate_left
        · intro w'
          go_simp
          with_reducible rfl
        rotate_left
        · simp only [Act.put, List.setIfInBounds_toArray, List.set_cons_zero, List.set_cons_succ, i64_w, i32_w, f3, f4, f5, f6, f7, f8, f9]
          rfl
        refine pure_ (i := 11) (N := some 66) (v := ?_) (a' := ?_) #[true, false, true, true, true, true, true, true, true, true, true, true, false, false, false, false, false, false] rfl rfl (by kernel_rfl) (fun _ _ _ h => h) (Or.inl ⟨by rfl, ?_⟩) ?_ ?_
        rotate_left
        · intro w'
          go_simp
          with_reducible rfl
        rotate_left
        · simp only [Act.put, List.setIfInBounds_toArray, List.set_cons_zero, List.set_cons_succ, i64_w, i32_w, f3, f4, f5, f6, f7, f8, f9]
          rfl
        refine pure_ (i := 12) (N := some 67) (v := ?_) (a' := ?_) #[true, false, true, true, true, true, true, true, true, true, true, true, true, false, false, false, false, false] rfl rfl (by kernel_rfl) (fun _ _ _ h => h) (Or.inl ⟨by rfl, ?_⟩) ?_ ?_
        rotate_left
        · intro w'
          go_simp
          with_reducible rfl
        rotate_left
        · simp only [Act.put, List.setIfInBounds_toArray, List.set_cons_zero, List.set_cons_succ, i64_w, i32_w, f3, f4, f5, f6, f7, f8, f9]
          rfl
        refine pure_ (i := 13) (N := some 68) (v := ?_) (a' := ?_) #[true, false, true, true, true, true, true, true, true, true, true, true, true, true, false, false, false, false] rfl rfl (by kernel_rfl) (fun _ _ _ h => h) (Or.inl ⟨by rfl, ?_⟩) ?_ ?_
        rotate_left
        · intro w'
          go_simp
          with_reducible rfl
        rotate_left
        · simp only [Act.put, List.setIfInBounds_toArray, List.set_cons_zero, List.set_cons_succ, i64_w, i32_w, f3, f4, f5, f6, f7, f8, f9]
          rfl
        refine pure_ (i := 14) (N := some 69) (v := ?_) (a' := ?_) #[true, false, true, true, true, true, true, true, true, true, true, true, true, true, true, false, false, false] rfl rfl (by kernel_rfl) (fun _ _ _ h => h) (Or.inl ⟨by rfl, ?_⟩) ?_ ?_
        rotate_left
        · intro w'
          go_simp
          with_reducible rfl
        rotate_left
        · simp only [Act.put, List.setIfInBounds_toArray, List.set_cons_zero, List.set_cons_succ, i64_w, i32_w, f3, f4, f5, f6, f7, f8, f9]
          rfl
        refine pure_ (i := 15) (N := some 70) (v := ?_) (a' := ?_) #[true, false, true, true, true, true, true, true, true, true, true, true, true, true, true, true, false, false] rfl rfl (by kernel_rfl) (fun _ _ _ h => h) (Or.inl ⟨by rfl, ?_⟩) ?_ ?_
        rotate_left
        · intro w'
          go_simp
          with_reducible rfl
        rotate_left
        · simp only [Act.put, List.setIfInBounds_toArray, List.set_cons_zero, List.set_cons_succ, i64_w, i32_w, f3, f4, f5, f6, f7, f8, f9]
          rfl
        refine take_ (i := 1) (N := some 56) (v := ?_) (a' := ?_) #[true, true, true, true, true, true, true, true, true, true, true, true, true, true, true, true, false, false] rfl rfl (by kernel_rfl) (fun _ _ _ h => h) (Or.inl ⟨by rfl, ?_⟩) hHeld ?_ ?_
        rotate_left
        · rintro w' ⟨s0, s1, s2, s3, s4⟩
          have q1 := (bkCell s0 1).trans (show _ = some (Value.slice (some ⟨g, 0, none⟩) n c') from rfl)
          clear s0 s1 s2 s3 s4
          go_simp
          with_reducible rfl
        rotate_left
        · simp only [Act.put, List.setIfInBounds_toArray, List.set_cons_zero, List.set_cons_succ, i64_w, i32_w, f3, f4, f5, f6, f7, f8, f9]
          rfl
        refine pure_ (i := 16) (N := some 71) (v := ?_) (a' := ?_) #[true, true, true, true, true, true, true, true, true, true, true, true, true, true, true, true, true, false] rfl rfl (by kernel_rfl) (fun _ _ _ h => h) (Or.inl ⟨by rfl, ?_⟩) ?_ ?_
        rotate_left
        · intro w'
          go_simp
          with_reducible rfl
        rotate_left
        · simp only [Act.put, List.setIfInBounds_toArray, List.set_cons_zero, List.set_cons_succ, i64_w, i32_w, f3, f4, f5, f6, f7, f8, f9]
          rfl
        refine last_ (i := 17) (N := none) #[true, true, true, true, true, true, true, true, true, true, true, true, true, true, true, true, true, true] rfl rfl (by kernel_rfl) (by decide) (fun K hK => ?_)
        obtain ⟨P5, H5, s5, O5, B5⟩ := hHeld
        have z5 := O5.frozenAt j
        have N5 := Lib.hid (And.intro P5 (And.intro H5 (And.intro O5 B5)))
        clear P5 H5 O5 B5
        refine skip_ (w1 := ?_) (by rfl) rfl ?_ ?_
        rotate_left
        · go_simp
          rfl
        refine hK.out _ _ ?_
        clear hK K
        refine done_ (by kernel_rfl) ?_
        have hV : min (h - 1) (max (-h) q) = ampX s.a2 num den x := (clp_mm _ HBH.out.1).trans HQ.out
        rw [hV]
        obtain ⟨P5, H5, O5, B5⟩ := N5.out
        have hG := HG.out
        have hP := HP.out
        have hH := HH.out
        clear f3 f4 f5 f6 f7 f8 f9 hV
        have P6 := Lib.hid (bkFar P5 (p := ⟨g, j, none⟩) (by simp; omega) (iv (ampX s.a2 num den x)))
        have H6 := Lib.hid (bkFar H5 (p := ⟨g, j, none⟩) (by simp; omega) (iv (ampX s.a2 num den x)))
        have O6 := Lib.hid (ownN (O5.stored j (iv (ampX s.a2 num den x))).1 ((rw_set _ n j _).trans ((show rw_ _ n = rw_ (fun i => if i = j then ampX s.a2 num den (xs j) else upF (ampX s.a2 num den) xs j i) n by rw [HXJ.out]).trans (upF_step (ampX s.a2 num den) xs n j))))
        have B6 := B5.setCell (p := ⟨g, j, none⟩) (by simp; omega) (iv (ampX s.a2 num den x))
        clear P5 H5 O5 B5 s5 z5 N5 hG hP hH HQ
        go_wp2
        exact ⟨⟨j + 1, by omega, by go_num, P6.out, H6.out, O6.out, B6⟩, by simp [intOf]; omega⟩
    · obtain rfl : j = n := by omega
      go_upto_region 16 with (fail)
      go_wp2_with (first
        | (refine wpList_load_row rfl 24 (.tmp 3) rfl (w.heap.size) rfl 24 _ (0, 0) _ NP.out Try.underlying24 rfl (S.i24 _ _ _ _) ?_)
        | (refine wpList_store_row rfl 24 (.tmp 6) (.tmp 73) rfl (w.heap.size + 1) (s.cs A' j c') rfl rfl 24 _ NH.out (S.i24 _ _ _ _) (S.sz S.zero _ none _ 0 0 _ _) (S.one _ _ _ _) ?_))
      refine bodyPost_ret (res_ct rfl _ _ (w.heap.size + 1) 24 _ (0, 0) _ rfl (setRow_heap _ _ _ _ _ _ NH.out) Try.underlying24 rfl (S.i24 _ _ _ _)) rfl ⟨A', c', rfl, ownN (ownBase2 (ownVR NO.out HH.out _) (Nat.le_of_lt HP.out)) (by rw [upF_end]; rfl), below_setRow hB (by omega) _⟩
end Go.Proofs.Ytnmoiolddfboiaa.SX

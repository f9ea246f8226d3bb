/- A piece of a sample. -/
import Derived.Test.YtnmoiolddfboiaaSxR
namespace Go.Proofs.Ytnmoiolddfboiaa.SX
open Go.RowKit Go.Proofs.YtnmoiolddfboiaaW.PrintLast Go.Proofs.Ytnmoiolddfboiaa.TX Go.Proofs.Ytnmoiolddfboiaa.Cu
set_option linter.unusedVariables false
set_option linter.unusedSimpArgs false
/-- what becomes of a loop of a piece -/
def cropK (k a b f t : Int) : Int × Int × Int := if k = 0 ∨ a < f ∨ t < b then (0, 0, 0) else (k, a - f, b - f)
set_option maxHeartbeats 4000000 in
set_option maxRecDepth 100000 in
theorem cropped_any (k a b f t : Int) (ha : -1000000 ≤ a ∧ a ≤ 1000000) (hb : -1000000 ≤ b ∧ b ≤ 1000000) (hf : -1000000 ≤ f ∧ f ≤ 1000000) (w : World) : Calls Try.prog 77 #[iv k, iv a, iv b, iv f, iv t] w fun e w' => e = .returned (.tuple #[iv (cropK k a b f t).1, iv (cropK k a b f t).2.1, iv (cropK k a b f t).2.2]) ∧ w = w' := by
  by_cases h0 : k = 0
  · rw [show cropK k a b f t = (0, 0, 0) from if_pos (.inl h0)]
    have e0 : (k == 0) = true := by simp [h0]
    clear h0
    (go_enter Try.func77, Try.ntmps77; go_wp2; go_ret3; exact ⟨rfl, rfl⟩)
  · have e0 : (k == 0) = false := by simp [h0]
    by_cases h1 : a < f
    · rw [show cropK k a b f t = (0, 0, 0) from if_pos (.inr (.inl h1))]
      have d1 : decide (a < f) = true := decide_eq_true h1
      clear h0
      (go_enter Try.func77, Try.ntmps77; go_wp2; go_ret3; exact ⟨rfl, rfl⟩)
    · have d1 : decide (a < f) = false := decide_eq_false h1
      by_cases h2 : t < b
      · rw [show cropK k a b f t = (0, 0, 0) from if_pos (.inr (.inr h2))]
        have d2 : decide (t < b) = true := decide_eq_true h2
        clear h0
        (go_enter Try.func77, Try.ntmps77; go_wp2; go_ret3; exact ⟨rfl, rfl⟩)
      · rw [show cropK k a b f t = (k, a - f, b - f) from if_neg (by omega)]
        have d2 : decide (t < b) = false := decide_eq_false h2
        have e1 : wrap64 (a - f) = a - f := wrap_in (by omega) (by omega)
        have e2 : wrap64 (b - f) = b - f := wrap_in (by omega) (by omega)
        clear h0
        (go_enter Try.func77, Try.ntmps77; go_wp2; go_ret3; exact ⟨rfl, rfl⟩)
set_option maxHeartbeats 4000000 in
set_option maxRecDepth 100000 in
theorem kept_any (k a b f t : Int) (ha : -1000000 ≤ a ∧ a ≤ 1000000) (hb : -1000000 ≤ b ∧ b ≤ 1000000) (hf : -1000000 ≤ f ∧ f ≤ 1000000) (w : World) : Calls Try.prog 78 #[iv k, iv a, iv b, iv f, iv t] w fun e w' => e = .returned (.tuple #[iv (cropK k a b f t).1, iv (cropK k a b f t).2.1, iv (cropK k a b f t).2.2]) ∧ w = w' := by
  by_cases h0 : k = 0
  · rw [show cropK k a b f t = (0, 0, 0) from if_pos (.inl h0)]
    have e0 : (k == 0) = true := by simp [h0]
    clear h0
    (go_enter Try.func78, Try.ntmps78; go_wp2; go_ret3; exact ⟨rfl, rfl⟩)
  · have e0 : (k == 0) = false := by simp [h0]
    by_cases h1 : a < f
    · rw [show cropK k a b f t = (0, 0, 0) from if_pos (.inr (.inl h1))]
      have d1 : decide (a < f) = true := decide_eq_true h1
      clear h0
      (go_enter Try.func78, Try.ntmps78; go_wp2; go_ret3; exact ⟨rfl, rfl⟩)
    · have d1 : decide (a < f) = false := decide_eq_false h1
      by_cases h2 : t < b
      · rw [show cropK k a b f t = (0, 0, 0) from if_pos (.inr (.inr h2))]
        have d2 : decide (t < b) = true := decide_eq_true h2
        clear h0
        (go_enter Try.func78, Try.ntmps78; go_wp2; go_ret3; exact ⟨rfl, rfl⟩)
      · rw [show cropK k a b f t = (k, a - f, b - f) from if_neg (by omega)]
        have d2 : decide (t < b) = false := decide_eq_false h2
        have e1 : wrap64 (a - f) = a - f := wrap_in (by omega) (by omega)
        have e2 : wrap64 (b - f) = b - f := wrap_in (by omega) (by omega)
        clear h0
        (go_enter Try.func78, Try.ntmps78; go_wp2; go_ret3; exact ⟨rfl, rfl⟩)
set_option maxHeartbeats 16000000 in
set_option maxRecDepth 100000 in
theorem scrop_bad (s : S) (A : Option Addr) (n c0 b o : Nat) (xs : Nat → Int) (f t : Int) (hv : vS s n xs = false) (hn : n ≤ 9223372036854775807) (hc0 : n ≤ c0) (w : World) (hA : DataAt w A n b o xs) : Gives 32 #[.agg (s.cs A n c0), iv f, iv t] w S.zero 0 (fun _ => 0) 1 := by
  unfold Gives
  have H0 := Lib.hid (show ((w.alloc (Obj.cells (s.cs A n c0) 24)).alloc (Obj.cells #[Value.string ⟨#[]⟩, Value.slice none 0 0, iv 0, iv 0, iv 0, iv 0, iv 0, iv 0, iv 0, iv 0, iv 0, iv 0, iv 0] 24)).heap[w.heap.size + 1]? = some (.cells (S.zero.cs none 0 0) 24 (0, 0)) from heap_alloc2_new w (Obj.cells (s.cs A n c0) 24) (Obj.cells #[Value.string ⟨#[]⟩, Value.slice none 0 0, iv 0, iv 0, iv 0, iv 0, iv 0, iv 0, iv 0, iv 0, iv 0, iv 0, iv 0] 24))
  have B0 : Below w.heap.size w ((w.alloc (Obj.cells (s.cs A n c0) 24)).alloc (Obj.cells #[Value.string ⟨#[]⟩, Value.slice none 0 0, iv 0, iv 0, iv 0, iv 0, iv 0, iv 0, iv 0, iv 0, iv 0, iv 0, iv 0] 24)) := ((Below.refl _ _).alloc (Nat.le_refl _) _).alloc (by simp) _
  have P0 := Lib.hid (show ((w.alloc (Obj.cells (s.cs A n c0) 24)).alloc (Obj.cells #[Value.string ⟨#[]⟩, Value.slice none 0 0, iv 0, iv 0, iv 0, iv 0, iv 0, iv 0, iv 0, iv 0, iv 0, iv 0, iv 0] 24)).heap[w.heap.size]? = some (.cells (s.cs A n c0) 24 (0, 0)) from heap_alloc2_old w _ _)
  have D0 := Lib.hid (hA.later B0)
  have VC := Lib.hid (show ∀ (W : World), DataAt W A n b o xs → Calls Try.prog 15 #[.agg (s.cs A n c0)] W fun e w' => e = .returned (.bool false) ∧ Below W.heap.size W w' from fun W h => by have := valid_any s A n c0 b o xs hn hc0 W h; rwa [hv] at this)
  clear hA hv
  go_enter Try.func32, Try.ntmps32
  go_wp2_with (first
    | (refine wpList_load_row rfl 24 (.tmp 3) rfl (w.heap.size) rfl 24 _ (0, 0) _ P0.out Try.underlying24 rfl (S.i24 _ _ _ _) ?_)
    | (go_at_call 15; (with_reducible refine (VC.out _ D0.out).mono ?_); rintro e w1 ⟨rfl, hb1⟩; have P1 := Lib.hid (bkBelow P0.out hb1); have H1 := Lib.hid (bkBelow H0.out hb1); have D1 := Lib.hid (D0.out.later hb1); have B1 := bdT B0 B0.size hb1)
    | (refine wpBuild0 rfl 24 rfl (S.zero.cs none 0 0) built24 ?_)
    | (refine wpList_store_row rfl 24 (.tmp 6) (.tmp 11) rfl (w.heap.size + 1) (S.zero.cs none 0 0) rfl rfl 24 _ H1.out (S.i24 _ _ _ _) (S.sz S.zero S.zero none none 0 0 0 0) (S.one _ _ _ _) ?_))
  refine bodyPost_ret (res_ct rfl _ _ (w.heap.size + 1) 24 _ (0, 0) _ rfl (setRow_heap _ _ _ _ _ _ H1.out) Try.underlying24 rfl (S.i24 _ _ _ _)) rfl ⟨none, 0, rfl, own0, below_setRow B1 (by omega) _⟩
set_option maxHeartbeats 16000000 in
set_option maxRecDepth 100000 in
theorem scrop_rng1 (s : S) (A : Option Addr) (n c0 b o : Nat) (xs : Nat → Int) (f t : Int) (hv : vS s n xs = true) (h1 : f < 0) (hn : n ≤ 9223372036854775807) (hc0 : n ≤ c0) (w : World) (hA : DataAt w A n b o xs) : Gives 32 #[.agg (s.cs A n c0), iv f, iv t] w S.zero 0 (fun _ => 0) 5 := by
  unfold Gives
  have H0 := Lib.hid (show ((w.alloc (Obj.cells (s.cs A n c0) 24)).alloc (Obj.cells #[Value.string ⟨#[]⟩, Value.slice none 0 0, iv 0, iv 0, iv 0, iv 0, iv 0, iv 0, iv 0, iv 0, iv 0, iv 0, iv 0] 24)).heap[w.heap.size + 1]? = some (.cells (S.zero.cs none 0 0) 24 (0, 0)) from heap_alloc2_new w (Obj.cells (s.cs A n c0) 24) (Obj.cells #[Value.string ⟨#[]⟩, Value.slice none 0 0, iv 0, iv 0, iv 0, iv 0, iv 0, iv 0, iv 0, iv 0, iv 0, iv 0, iv 0] 24))
  have B0 : Below w.heap.size w ((w.alloc (Obj.cells (s.cs A n c0) 24)).alloc (Obj.cells #[Value.string ⟨#[]⟩, Value.slice none 0 0, iv 0, iv 0, iv 0, iv 0, iv 0, iv 0, iv 0, iv 0, iv 0, iv 0, iv 0] 24)) := ((Below.refl _ _).alloc (Nat.le_refl _) _).alloc (by simp) _
  have P0 := Lib.hid (show ((w.alloc (Obj.cells (s.cs A n c0) 24)).alloc (Obj.cells #[Value.string ⟨#[]⟩, Value.slice none 0 0, iv 0, iv 0, iv 0, iv 0, iv 0, iv 0, iv 0, iv 0, iv 0, iv 0, iv 0] 24)).heap[w.heap.size]? = some (.cells (s.cs A n c0) 24 (0, 0)) from heap_alloc2_old w _ _)
  have D0 := Lib.hid (hA.later B0)
  have VC := Lib.hid (show ∀ (W : World), DataAt W A n b o xs → Calls Try.prog 15 #[.agg (s.cs A n c0)] W fun e w' => e = .returned (.bool true) ∧ Below W.heap.size W w' from fun W h => by have := valid_any s A n c0 b o xs hn hc0 W h; rwa [hv] at this)
  have d1 : decide (f < 0) = true := decide_eq_true (by omega)
  clear hA hv
  go_enter Try.func32, Try.ntmps32
  go_wp2_with (first
    | (refine wpList_load_row rfl 24 (.tmp 3) rfl (w.heap.size) rfl 24 _ (0, 0) _ P0.out Try.underlying24 rfl (S.i24 _ _ _ _) ?_)
    | (go_at_call 15; (with_reducible refine (VC.out _ D0.out).mono ?_); rintro e w1 ⟨rfl, hb1⟩; have P1 := Lib.hid (bkBelow P0.out hb1); have H1 := Lib.hid (bkBelow H0.out hb1); have p1 := (bkCell P1.out 1).trans (show _ = some (Value.slice A n c0) from rfl); have D1 := Lib.hid (D0.out.later hb1); have B1 := bdT B0 B0.size hb1)
    | (refine wpBuild0 rfl 24 rfl (S.zero.cs none 0 0) built24 ?_)
    | (refine wpList_store_row rfl 24 (.tmp 6) (.tmp 26) rfl (w.heap.size + 1) (S.zero.cs none 0 0) rfl rfl 24 _ H1.out (S.i24 _ _ _ _) (S.sz S.zero S.zero none none 0 0 0 0) (S.one _ _ _ _) ?_))
  refine bodyPost_ret (res_ct rfl _ _ (w.heap.size + 1) 24 _ (0, 0) _ rfl (setRow_heap _ _ _ _ _ _ H1.out) Try.underlying24 rfl (S.i24 _ _ _ _)) rfl ⟨none, 0, rfl, own0, below_setRow B1 (by omega) _⟩
set_option maxHeartbeats 16000000 in
set_option maxRecDepth 100000 in
theorem scrop_rng2 (s : S) (A : Option Addr) (n c0 b o : Nat) (xs : Nat → Int) (f t : Int) (hv : vS s n xs = true) (h1 : 0 ≤ f) (h2 : t < f) (hn : n ≤ 9223372036854775807) (hc0 : n ≤ c0) (w : World) (hA : DataAt w A n b o xs) : Gives 32 #[.agg (s.cs A n c0), iv f, iv t] w S.zero 0 (fun _ => 0) 5 := by
  unfold Gives
  have H0 := Lib.hid (show ((w.alloc (Obj.cells (s.cs A n c0) 24)).alloc (Obj.cells #[Value.string ⟨#[]⟩, Value.slice none 0 0, iv 0, iv 0, iv 0, iv 0, iv 0, iv 0, iv 0, iv 0, iv 0, iv 0, iv 0] 24)).heap[w.heap.size + 1]? = some (.cells (S.zero.cs none 0 0) 24 (0, 0)) from heap_alloc2_new w (Obj.cells (s.cs A n c0) 24) (Obj.cells #[Value.string ⟨#[]⟩, Value.slice none 0 0, iv 0, iv 0, iv 0, iv 0, iv 0, iv 0, iv 0, iv 0, iv 0, iv 0, iv 0] 24))
  have B0 : Below w.heap.size w ((w.alloc (Obj.cells (s.cs A n c0) 24)).alloc (Obj.cells #[Value.string ⟨#[]⟩, Value.slice none 0 0, iv 0, iv 0, iv 0, iv 0, iv 0, iv 0, iv 0, iv 0, iv 0, iv 0, iv 0] 24)) := ((Below.refl _ _).alloc (Nat.le_refl _) _).alloc (by simp) _
  have P0 := Lib.hid (show ((w.alloc (Obj.cells (s.cs A n c0) 24)).alloc (Obj.cells #[Value.string ⟨#[]⟩, Value.slice none 0 0, iv 0, iv 0, iv 0, iv 0, iv 0, iv 0, iv 0, iv 0, iv 0, iv 0, iv 0] 24)).heap[w.heap.size]? = some (.cells (s.cs A n c0) 24 (0, 0)) from heap_alloc2_old w _ _)
  have D0 := Lib.hid (hA.later B0)
  have VC := Lib.hid (show ∀ (W : World), DataAt W A n b o xs → Calls Try.prog 15 #[.agg (s.cs A n c0)] W fun e w' => e = .returned (.bool true) ∧ Below W.heap.size W w' from fun W h => by have := valid_any s A n c0 b o xs hn hc0 W h; rwa [hv] at this)
  have d1 : decide (f < 0) = false := decide_eq_false (by omega)
  have d2 : decide (t < f) = true := decide_eq_true (by omega)
  clear hA hv
  go_enter Try.func32, Try.ntmps32
  go_wp2_with (first
    | (refine wpList_load_row rfl 24 (.tmp 3) rfl (w.heap.size) rfl 24 _ (0, 0) _ P0.out Try.underlying24 rfl (S.i24 _ _ _ _) ?_)
    | (go_at_call 15; (with_reducible refine (VC.out _ D0.out).mono ?_); rintro e w1 ⟨rfl, hb1⟩; have P1 := Lib.hid (bkBelow P0.out hb1); have H1 := Lib.hid (bkBelow H0.out hb1); have p1 := (bkCell P1.out 1).trans (show _ = some (Value.slice A n c0) from rfl); have D1 := Lib.hid (D0.out.later hb1); have B1 := bdT B0 B0.size hb1)
    | (refine wpBuild0 rfl 24 rfl (S.zero.cs none 0 0) built24 ?_)
    | (refine wpList_store_row rfl 24 (.tmp 6) (.tmp 26) rfl (w.heap.size + 1) (S.zero.cs none 0 0) rfl rfl 24 _ H1.out (S.i24 _ _ _ _) (S.sz S.zero S.zero none none 0 0 0 0) (S.one _ _ _ _) ?_))
  refine bodyPost_ret (res_ct rfl _ _ (w.heap.size + 1) 24 _ (0, 0) _ rfl (setRow_heap _ _ _ _ _ _ H1.out) Try.underlying24 rfl (S.i24 _ _ _ _)) rfl ⟨none, 0, rfl, own0, below_setRow B1 (by omega) _⟩
set_option maxHeartbeats 16000000 in
set_option maxRecDepth 100000 in
theorem scrop_rng3 (s : S) (A : Option Addr) (n c0 b o : Nat) (xs : Nat → Int) (f t : Int) (hv : vS s n xs = true) (h1 : 0 ≤ f) (h2 : f ≤ t) (h3 : (n : Int) < t) (hn : n ≤ 9223372036854775807) (hc0 : n ≤ c0) (w : World) (hA : DataAt w A n b o xs) : Gives 32 #[.agg (s.cs A n c0), iv f, iv t] w S.zero 0 (fun _ => 0) 5 := by
  unfold Gives
  have H0 := Lib.hid (show ((w.alloc (Obj.cells (s.cs A n c0) 24)).alloc (Obj.cells #[Value.string ⟨#[]⟩, Value.slice none 0 0, iv 0, iv 0, iv 0, iv 0, iv 0, iv 0, iv 0, iv 0, iv 0, iv 0, iv 0] 24)).heap[w.heap.size + 1]? = some (.cells (S.zero.cs none 0 0) 24 (0, 0)) from heap_alloc2_new w (Obj.cells (s.cs A n c0) 24) (Obj.cells #[Value.string ⟨#[]⟩, Value.slice none 0 0, iv 0, iv 0, iv 0, iv 0, iv 0, iv 0, iv 0, iv 0, iv 0, iv 0, iv 0] 24))
  have B0 : Below w.heap.size w ((w.alloc (Obj.cells (s.cs A n c0) 24)).alloc (Obj.cells #[Value.string ⟨#[]⟩, Value.slice none 0 0, iv 0, iv 0, iv 0, iv 0, iv 0, iv 0, iv 0, iv 0, iv 0, iv 0, iv 0] 24)) := ((Below.refl _ _).alloc (Nat.le_refl _) _).alloc (by simp) _
  have P0 := Lib.hid (show ((w.alloc (Obj.cells (s.cs A n c0) 24)).alloc (Obj.cells #[Value.string ⟨#[]⟩, Value.slice none 0 0, iv 0, iv 0, iv 0, iv 0, iv 0, iv 0, iv 0, iv 0, iv 0, iv 0, iv 0] 24)).heap[w.heap.size]? = some (.cells (s.cs A n c0) 24 (0, 0)) from heap_alloc2_old w _ _)
  have D0 := Lib.hid (hA.later B0)
  have VC := Lib.hid (show ∀ (W : World), DataAt W A n b o xs → Calls Try.prog 15 #[.agg (s.cs A n c0)] W fun e w' => e = .returned (.bool true) ∧ Below W.heap.size W w' from fun W h => by have := valid_any s A n c0 b o xs hn hc0 W h; rwa [hv] at this)
  have d1 : decide (f < 0) = false := decide_eq_false (by omega)
  have d2 : decide (t < f) = false := decide_eq_false (by omega)
  have d3 : decide ((n : Int) < t) = true := decide_eq_true (by omega)
  clear hA hv
  go_enter Try.func32, Try.ntmps32
  go_wp2_with (first
    | (refine wpList_load_row rfl 24 (.tmp 3) rfl (w.heap.size) rfl 24 _ (0, 0) _ P0.out Try.underlying24 rfl (S.i24 _ _ _ _) ?_)
    | (go_at_call 15; (with_reducible refine (VC.out _ D0.out).mono ?_); rintro e w1 ⟨rfl, hb1⟩; have P1 := Lib.hid (bkBelow P0.out hb1); have H1 := Lib.hid (bkBelow H0.out hb1); have p1 := (bkCell P1.out 1).trans (show _ = some (Value.slice A n c0) from rfl); have D1 := Lib.hid (D0.out.later hb1); have B1 := bdT B0 B0.size hb1)
    | (refine wpBuild0 rfl 24 rfl (S.zero.cs none 0 0) built24 ?_)
    | (refine wpList_store_row rfl 24 (.tmp 6) (.tmp 26) rfl (w.heap.size + 1) (S.zero.cs none 0 0) rfl rfl 24 _ H1.out (S.i24 _ _ _ _) (S.sz S.zero S.zero none none 0 0 0 0) (S.one _ _ _ _) ?_))
  refine bodyPost_ret (res_ct rfl _ _ (w.heap.size + 1) 24 _ (0, 0) _ rfl (setRow_heap _ _ _ _ _ _ H1.out) Try.underlying24 rfl (S.i24 _ _ _ _)) rfl ⟨none, 0, rfl, own0, below_setRow B1 (by omega) _⟩
set_option maxHeartbeats 16000000 in
set_option maxRecDepth 100000 in
theorem rcrop_bad (s : S) (A : Option Addr) (n c0 b o : Nat) (xs : Nat → Int) (f t : Int) (hv : vS s n xs = false) (hn : n ≤ 9223372036854775807) (hc0 : n ≤ c0) (w : World) (hA : DataAt w A n b o xs) : Gives 36 #[.agg (s.cs A n c0), iv f, iv t] w S.zero 0 (fun _ => 0) 1 := by
  unfold Gives
  have H0 := Lib.hid (show ((w.alloc (Obj.cells (s.cs A n c0) 24)).alloc (Obj.cells #[Value.string ⟨#[]⟩, Value.slice none 0 0, iv 0, iv 0, iv 0, iv 0, iv 0, iv 0, iv 0, iv 0, iv 0, iv 0, iv 0] 24)).heap[w.heap.size + 1]? = some (.cells (S.zero.cs none 0 0) 24 (0, 0)) from heap_alloc2_new w (Obj.cells (s.cs A n c0) 24) (Obj.cells #[Value.string ⟨#[]⟩, Value.slice none 0 0, iv 0, iv 0, iv 0, iv 0, iv 0, iv 0, iv 0, iv 0, iv 0, iv 0, iv 0] 24))
  have B0 : Below w.heap.size w ((w.alloc (Obj.cells (s.cs A n c0) 24)).alloc (Obj.cells #[Value.string ⟨#[]⟩, Value.slice none 0 0, iv 0, iv 0, iv 0, iv 0, iv 0, iv 0, iv 0, iv 0, iv 0, iv 0, iv 0] 24)) := ((Below.refl _ _).alloc (Nat.le_refl _) _).alloc (by simp) _
  have P0 := Lib.hid (show ((w.alloc (Obj.cells (s.cs A n c0) 24)).alloc (Obj.cells #[Value.string ⟨#[]⟩, Value.slice none 0 0, iv 0, iv 0, iv 0, iv 0, iv 0, iv 0, iv 0, iv 0, iv 0, iv 0, iv 0] 24)).heap[w.heap.size]? = some (.cells (s.cs A n c0) 24 (0, 0)) from heap_alloc2_old w _ _)
  have D0 := Lib.hid (hA.later B0)
  have VC := Lib.hid (show ∀ (W : World), DataAt W A n b o xs → Calls Try.prog 25 #[.agg (s.cs A n c0)] W fun e w' => e = .returned (.bool false) ∧ Below W.heap.size W w' from fun W h => by have := rvalid_any s A n c0 b o xs hn hc0 W h; rwa [hv] at this)
  clear hA hv
  go_enter Try.func36, Try.ntmps36
  go_wp2_with (first
    | (refine wpList_load_row rfl 24 (.tmp 3) rfl (w.heap.size) rfl 24 _ (0, 0) _ P0.out Try.underlying24 rfl (S.i24 _ _ _ _) ?_)
    | (go_at_call 25; (with_reducible refine (VC.out _ D0.out).mono ?_); rintro e w1 ⟨rfl, hb1⟩; have P1 := Lib.hid (bkBelow P0.out hb1); have H1 := Lib.hid (bkBelow H0.out hb1); have D1 := Lib.hid (D0.out.later hb1); have B1 := bdT B0 B0.size hb1)
    | (refine wpBuild0 rfl 24 rfl (S.zero.cs none 0 0) built24 ?_)
    | (refine wpList_store_row rfl 24 (.tmp 6) (.tmp 13) rfl (w.heap.size + 1) (S.zero.cs none 0 0) rfl rfl 24 _ H1.out (S.i24 _ _ _ _) (S.sz S.zero S.zero none none 0 0 0 0) (S.one _ _ _ _) ?_))
  refine bodyPost_ret (res_ct rfl _ _ (w.heap.size + 1) 24 _ (0, 0) _ rfl (setRow_heap _ _ _ _ _ _ H1.out) Try.underlying24 rfl (S.i24 _ _ _ _)) rfl ⟨none, 0, rfl, own0, below_setRow B1 (by omega) _⟩
set_option maxHeartbeats 16000000 in
set_option maxRecDepth 100000 in
theorem rcrop_rng1 (s : S) (A : Option Addr) (n c0 b o : Nat) (xs : Nat → Int) (f t : Int) (hv : vS s n xs = true) (h1 : f < 0) (hn : n ≤ 9223372036854775807) (hc0 : n ≤ c0) (w : World) (hA : DataAt w A n b o xs) : Gives 36 #[.agg (s.cs A n c0), iv f, iv t] w S.zero 0 (fun _ => 0) 5 := by
  unfold Gives
  have H0 := Lib.hid (show ((w.alloc (Obj.cells (s.cs A n c0) 24)).alloc (Obj.cells #[Value.string ⟨#[]⟩, Value.slice none 0 0, iv 0, iv 0, iv 0, iv 0, iv 0, iv 0, iv 0, iv 0, iv 0, iv 0, iv 0] 24)).heap[w.heap.size + 1]? = some (.cells (S.zero.cs none 0 0) 24 (0, 0)) from heap_alloc2_new w (Obj.cells (s.cs A n c0) 24) (Obj.cells #[Value.string ⟨#[]⟩, Value.slice none 0 0, iv 0, iv 0, iv 0, iv 0, iv 0, iv 0, iv 0, iv 0, iv 0, iv 0, iv 0] 24))
  have B0 : Below w.heap.size w ((w.alloc (Obj.cells (s.cs A n c0) 24)).alloc (Obj.cells #[Value.string ⟨#[]⟩, Value.slice none 0 0, iv 0, iv 0, iv 0, iv 0, iv 0, iv 0, iv 0, iv 0, iv 0, iv 0, iv 0] 24)) := ((Below.refl _ _).alloc (Nat.le_refl _) _).alloc (by simp) _
  have P0 := Lib.hid (show ((w.alloc (Obj.cells (s.cs A n c0) 24)).alloc (Obj.cells #[Value.string ⟨#[]⟩, Value.slice none 0 0, iv 0, iv 0, iv 0, iv 0, iv 0, iv 0, iv 0, iv 0, iv 0, iv 0, iv 0] 24)).heap[w.heap.size]? = some (.cells (s.cs A n c0) 24 (0, 0)) from heap_alloc2_old w _ _)
  have D0 := Lib.hid (hA.later B0)
  have VC := Lib.hid (show ∀ (W : World), DataAt W A n b o xs → Calls Try.prog 25 #[.agg (s.cs A n c0)] W fun e w' => e = .returned (.bool true) ∧ Below W.heap.size W w' from fun W h => by have := rvalid_any s A n c0 b o xs hn hc0 W h; rwa [hv] at this)
  have d1 : decide (f < 0) = true := decide_eq_true (by omega)
  clear hA hv
  go_enter Try.func36, Try.ntmps36
  go_wp2_with (first
    | (refine wpList_load_row rfl 24 (.tmp 3) rfl (w.heap.size) rfl 24 _ (0, 0) _ P0.out Try.underlying24 rfl (S.i24 _ _ _ _) ?_)
    | (go_at_call 25; (with_reducible refine (VC.out _ D0.out).mono ?_); rintro e w1 ⟨rfl, hb1⟩; have P1 := Lib.hid (bkBelow P0.out hb1); have H1 := Lib.hid (bkBelow H0.out hb1); have p1 := (bkCell P1.out 1).trans (show _ = some (Value.slice A n c0) from rfl); have D1 := Lib.hid (D0.out.later hb1); have B1 := bdT B0 B0.size hb1)
    | (refine wpBuild0 rfl 24 rfl (S.zero.cs none 0 0) built24 ?_)
    | (refine wpList_store_row rfl 24 (.tmp 6) (.tmp 29) rfl (w.heap.size + 1) (S.zero.cs none 0 0) rfl rfl 24 _ H1.out (S.i24 _ _ _ _) (S.sz S.zero S.zero none none 0 0 0 0) (S.one _ _ _ _) ?_))
  refine bodyPost_ret (res_ct rfl _ _ (w.heap.size + 1) 24 _ (0, 0) _ rfl (setRow_heap _ _ _ _ _ _ H1.out) Try.underlying24 rfl (S.i24 _ _ _ _)) rfl ⟨none, 0, rfl, own0, below_setRow B1 (by omega) _⟩
set_option maxHeartbeats 16000000 in
set_option maxRecDepth 100000 in
theorem rcrop_rng2 (s : S) (A : Option Addr) (n c0 b o : Nat) (xs : Nat → Int) (f t : Int) (hv : vS s n xs = true) (h1 : 0 ≤ f) (h2 : t < f) (hn : n ≤ 9223372036854775807) (hc0 : n ≤ c0) (w : World) (hA : DataAt w A n b o xs) : Gives 36 #[.agg (s.cs A n c0), iv f, iv t] w S.zero 0 (fun _ => 0) 5 := by
  unfold Gives
  have H0 := Lib.hid (show ((w.alloc (Obj.cells (s.cs A n c0) 24)).alloc (Obj.cells #[Value.string ⟨#[]⟩, Value.slice none 0 0, iv 0, iv 0, iv 0, iv 0, iv 0, iv 0, iv 0, iv 0, iv 0, iv 0, iv 0] 24)).heap[w.heap.size + 1]? = some (.cells (S.zero.cs none 0 0) 24 (0, 0)) from heap_alloc2_new w (Obj.cells (s.cs A n c0) 24) (Obj.cells #[Value.string ⟨#[]⟩, Value.slice none 0 0, iv 0, iv 0, iv 0, iv 0, iv 0, iv 0, iv 0, iv 0, iv 0, iv 0, iv 0] 24))
  have B0 : Below w.heap.size w ((w.alloc (Obj.cells (s.cs A n c0) 24)).alloc (Obj.cells #[Value.string ⟨#[]⟩, Value.slice none 0 0, iv 0, iv 0, iv 0, iv 0, iv 0, iv 0, iv 0, iv 0, iv 0, iv 0, iv 0] 24)) := ((Below.refl _ _).alloc (Nat.le_refl _) _).alloc (by simp) _
  have P0 := Lib.hid (show ((w.alloc (Obj.cells (s.cs A n c0) 24)).alloc (Obj.cells #[Value.string ⟨#[]⟩, Value.slice none 0 0, iv 0, iv 0, iv 0, iv 0, iv 0, iv 0, iv 0, iv 0, iv 0, iv 0, iv 0] 24)).heap[w.heap.size]? = some (.cells (s.cs A n c0) 24 (0, 0)) from heap_alloc2_old w _ _)
  have D0 := Lib.hid (hA.later B0)
  have VC := Lib.hid (show ∀ (W : World), DataAt W A n b o xs → Calls Try.prog 25 #[.agg (s.cs A n c0)] W fun e w' => e = .returned (.bool true) ∧ Below W.heap.size W w' from fun W h => by have := rvalid_any s A n c0 b o xs hn hc0 W h; rwa [hv] at this)
  have d1 : decide (f < 0) = false := decide_eq_false (by omega)
  have d2 : decide (t < f) = true := decide_eq_true (by omega)
  clear hA hv
  go_enter Try.func36, Try.ntmps36
  go_wp2_with (first
    | (refine wpList_load_row rfl 24 (.tmp 3) rfl (w.heap.size) rfl 24 _ (0, 0) _ P0.out Try.underlying24 rfl (S.i24 _ _ _ _) ?_)
    | (go_at_call 25; (with_reducible refine (VC.out _ D0.out).mono ?_); rintro e w1 ⟨rfl, hb1⟩; have P1 := Lib.hid (bkBelow P0.out hb1); have H1 := Lib.hid (bkBelow H0.out hb1); have p1 := (bkCell P1.out 1).trans (show _ = some (Value.slice A n c0) from rfl); have D1 := Lib.hid (D0.out.later hb1); have B1 := bdT B0 B0.size hb1)
    | (refine wpBuild0 rfl 24 rfl (S.zero.cs none 0 0) built24 ?_)
    | (refine wpList_store_row rfl 24 (.tmp 6) (.tmp 29) rfl (w.heap.size + 1) (S.zero.cs none 0 0) rfl rfl 24 _ H1.out (S.i24 _ _ _ _) (S.sz S.zero S.zero none none 0 0 0 0) (S.one _ _ _ _) ?_))
  refine bodyPost_ret (res_ct rfl _ _ (w.heap.size + 1) 24 _ (0, 0) _ rfl (setRow_heap _ _ _ _ _ _ H1.out) Try.underlying24 rfl (S.i24 _ _ _ _)) rfl ⟨none, 0, rfl, own0, below_setRow B1 (by omega) _⟩
set_option maxHeartbeats 16000000 in
set_option maxRecDepth 100000 in
theorem rcrop_rng3 (s : S) (A : Option Addr) (n c0 b o : Nat) (xs : Nat → Int) (f t : Int) (hv : vS s n xs = true) (h1 : 0 ≤ f) (h2 : f ≤ t) (h3 : (n : Int) < t) (hn : n ≤ 9223372036854775807) (hc0 : n ≤ c0) (w : World) (hA : DataAt w A n b o xs) : Gives 36 #[.agg (s.cs A n c0), iv f, iv t] w S.zero 0 (fun _ => 0) 5 := by
  unfold Gives
  have H0 := Lib.hid (show ((w.alloc (Obj.cells (s.cs A n c0) 24)).alloc (Obj.cells #[Value.string ⟨#[]⟩, Value.slice none 0 0, iv 0, iv 0, iv 0, iv 0, iv 0, iv 0, iv 0, iv 0, iv 0, iv 0, iv 0] 24)).heap[w.heap.size + 1]? = some (.cells (S.zero.cs none 0 0) 24 (0, 0)) from heap_alloc2_new w (Obj.cells (s.cs A n c0) 24) (Obj.cells #[Value.string ⟨#[]⟩, Value.slice none 0 0, iv 0, iv 0, iv 0, iv 0, iv 0, iv 0, iv 0, iv 0, iv 0, iv 0, iv 0] 24))
  have B0 : Below w.heap.size w ((w.alloc (Obj.cells (s.cs A n c0) 24)).alloc (Obj.cells #[Value.string ⟨#[]⟩, Value.slice none 0 0, iv 0, iv 0, iv 0, iv 0, iv 0, iv 0, iv 0, iv 0, iv 0, iv 0, iv 0] 24)) := ((Below.refl _ _).alloc (Nat.le_refl _) _).alloc (by simp) _
  have P0 := Lib.hid (show ((w.alloc (Obj.cells (s.cs A n c0) 24)).alloc (Obj.cells #[Value.string ⟨#[]⟩, Value.slice none 0 0, iv 0, iv 0, iv 0, iv 0, iv 0, iv 0, iv 0, iv 0, iv 0, iv 0, iv 0] 24)).heap[w.heap.size]? = some (.cells (s.cs A n c0) 24 (0, 0)) from heap_alloc2_old w _ _)
  have D0 := Lib.hid (hA.later B0)
  have VC := Lib.hid (show ∀ (W : World), DataAt W A n b o xs → Calls Try.prog 25 #[.agg (s.cs A n c0)] W fun e w' => e = .returned (.bool true) ∧ Below W.heap.size W w' from fun W h => by have := rvalid_any s A n c0 b o xs hn hc0 W h; rwa [hv] at this)
  have d1 : decide (f < 0) = false := decide_eq_false (by omega)
  have d2 : decide (t < f) = false := decide_eq_false (by omega)
  have d3 : decide ((n : Int) < t) = true := decide_eq_true (by omega)
  clear hA hv
  go_enter Try.func36, Try.ntmps36
  go_wp2_with (first
    | (refine wpList_load_row rfl 24 (.tmp 3) rfl (w.heap.size) rfl 24 _ (0, 0) _ P0.out Try.underlying24 rfl (S.i24 _ _ _ _) ?_)
    | (go_at_call 25; (with_reducible refine (VC.out _ D0.out).mono ?_); rintro e w1 ⟨rfl, hb1⟩; have P1 := Lib.hid (bkBelow P0.out hb1); have H1 := Lib.hid (bkBelow H0.out hb1); have p1 := (bkCell P1.out 1).trans (show _ = some (Value.slice A n c0) from rfl); have D1 := Lib.hid (D0.out.later hb1); have B1 := bdT B0 B0.size hb1)
    | (refine wpBuild0 rfl 24 rfl (S.zero.cs none 0 0) built24 ?_)
    | (refine wpList_store_row rfl 24 (.tmp 6) (.tmp 29) rfl (w.heap.size + 1) (S.zero.cs none 0 0) rfl rfl 24 _ H1.out (S.i24 _ _ _ _) (S.sz S.zero S.zero none none 0 0 0 0) (S.one _ _ _ _) ?_))
  refine bodyPost_ret (res_ct rfl _ _ (w.heap.size + 1) 24 _ (0, 0) _ rfl (setRow_heap _ _ _ _ _ _ H1.out) Try.underlying24 rfl (S.i24 _ _ _ _)) rfl ⟨none, 0, rfl, own0, below_setRow B1 (by omega) _⟩
def cropS (s : S) (f t : Int) : S := ⟨s.nm, s.a2, s.a3, s.a4, s.a5, s.a6, (cropK s.a7 s.a8 s.a9 f t).1, (cropK s.a7 s.a8 s.a9 f t).2.1, (cropK s.a7 s.a8 s.a9 f t).2.2, (cropK s.a10 s.a11 s.a12 f t).1, (cropK s.a10 s.a11 s.a12 f t).2.1, (cropK s.a10 s.a11 s.a12 f t).2.2⟩
theorem dataPart {w : World} {b o n f m : Nat} {xs : Nat → Int} (h : DataAt w (some ⟨b, o, none⟩) n b o xs) (hm : f + m ≤ n) : DataAt w (some ⟨b, o + f, none⟩) m b (o + f) (fun i => xs (f + i)) :=
  ⟨fun _ => rfl, fun hp => h.low (by omega), fun i hi => by have := h.cell (f + i) (by omega); rwa [← Nat.add_assoc] at this⟩
set_option maxHeartbeats 16000000 in
set_option maxRecDepth 100000 in
theorem scrop_some (s : S) (A : Option Addr) (n c0 b o : Nat) (xs : Nat → Int) (f t : Nat) (hv : vS s n xs = true) (hft : f < t) (htn : t ≤ n) (hn : n ≤ 9223372036854775807) (hc0 : n ≤ c0) (w : World) (hA : DataAt w A n b o xs) : Gives 32 #[.agg (s.cs A n c0), iv f, iv t] w (cropS s f t) (t - f) (fun i => xs (f + i)) 0 := by
  unfold Gives
  have H0 := Lib.hid (show ((w.alloc (Obj.cells (s.cs A n c0) 24)).alloc (Obj.cells #[Value.string ⟨#[]⟩, Value.slice none 0 0, iv 0, iv 0, iv 0, iv 0, iv 0, iv 0, iv 0, iv 0, iv 0, iv 0, iv 0] 24)).heap[w.heap.size + 1]? = some (.cells (S.zero.cs none 0 0) 24 (0, 0)) from heap_alloc2_new w (Obj.cells (s.cs A n c0) 24) (Obj.cells #[Value.string ⟨#[]⟩, Value.slice none 0 0, iv 0, iv 0, iv 0, iv 0, iv 0, iv 0, iv 0, iv 0, iv 0, iv 0, iv 0] 24))
  have B0 : Below w.heap.size w ((w.alloc (Obj.cells (s.cs A n c0) 24)).alloc (Obj.cells #[Value.string ⟨#[]⟩, Value.slice none 0 0, iv 0, iv 0, iv 0, iv 0, iv 0, iv 0, iv 0, iv 0, iv 0, iv 0, iv 0] 24)) := ((Below.refl _ _).alloc (Nat.le_refl _) _).alloc (by simp) _
  have P0 := Lib.hid (show ((w.alloc (Obj.cells (s.cs A n c0) 24)).alloc (Obj.cells #[Value.string ⟨#[]⟩, Value.slice none 0 0, iv 0, iv 0, iv 0, iv 0, iv 0, iv 0, iv 0, iv 0, iv 0, iv 0, iv 0] 24)).heap[w.heap.size]? = some (.cells (s.cs A n c0) 24 (0, 0)) from heap_alloc2_old w _ _)
  have D0 := Lib.hid (hA.later B0)
  have VC := Lib.hid (show ∀ (W : World), DataAt W A n b o xs → Calls Try.prog 15 #[.agg (s.cs A n c0)] W fun e w' => e = .returned (.bool true) ∧ Below W.heap.size W w' from fun W h => by have := valid_any s A n c0 b o xs hn hc0 W h; rwa [hv] at this)
  obtain ⟨_, _, n4, _, _, _, l7, l10⟩ := vS_yes hv
  unfold LpOk at l7 l10
  have HN := Lib.hid n4
  have d1 : decide ((f : Int) < 0) = false := decide_eq_false (by omega)
  have d2 : decide ((t : Int) < f) = false := decide_eq_false (by omega)
  have d3 : decide ((n : Int) < t) = false := decide_eq_false (by omega)
  have i0 : (0 : Int) ≤ (f : Int) := by omega
  have i1 : (0 : Int) ≤ (t : Int) := by omega
  have i2 : (f : Int) ≤ (t : Int) := by omega
  have i3 : (t : Int) ≤ (c0 : Int) := by omega
  have C7 := Lib.hid fun (W : World) => cropped_any s.a7 s.a8 s.a9 f t (by omega) (by omega) (by omega) W
  have C10 := Lib.hid fun (W : World) => cropped_any s.a10 s.a11 s.a12 f t (by omega) (by omega) (by omega) W
  have tA := hA.top (by omega)
  subst tA
  have hmm : f + (t - f) ≤ n := by omega
  have hm6 : t - f ≤ 1000000 := by omega
  have CL := Lib.hid fun (W : World) (h : DataAt W (some ⟨b, o, none⟩) n b o xs) => clone_any (some ⟨b, o + f, none⟩) (t - f) (c0 - f) b (o + f) (fun i => xs (f + i)) hm6 W (dataPart h hmm)
  clear hmm hm6
  clear hA hv l7 l10
  go_enter Try.func32, Try.ntmps32
  go_upto_region 5 with (first
    | (refine wpList_load_row rfl 24 (.tmp 3) rfl (w.heap.size) rfl 24 _ (0, 0) _ P0.out Try.underlying24 rfl (S.i24 _ _ _ _) ?_)
    | (go_at_call 15; (with_reducible refine (VC.out _ D0.out).mono ?_); rintro e w1 ⟨rfl, hb1⟩; have P1 := Lib.hid (bkBelow P0.out hb1); have H1 := Lib.hid (bkBelow H0.out hb1); have p1 := (bkCell P1.out 1).trans (show _ = some (Value.slice (some ⟨b, o, none⟩) n c0) from rfl); have D1 := Lib.hid (D0.out.later hb1); have B1 := bdT B0 B0.size hb1))
  have HP := Lib.hid (bkLt P1.out)
  have HH := Lib.hid (bkLt H1.out)
  have p1 := (bkCell P1.out 1).trans (show _ = some (Value.slice (some ⟨b, o, none⟩) n c0) from rfl)
  go_upto_region 6 with (go_at_call 76; (with_reducible refine (CL.out _ D1.out).mono ?_); rintro e w2 ⟨v, rfl, hO, hb2⟩; obtain ⟨A', c', g', rfl, _, _⟩ := ownDataV hO; have P2 := Lib.hid (bkBelow P1.out hb2); have H2 := Lib.hid (bkBelow H1.out hb2); have B2 := bdT B1 B1.size hb2; have O2 := Lib.hid hO; have q1 := (bkCell P2.out 1).trans (show _ = some (Value.slice (some ⟨b, o, none⟩) n c0) from rfl); have f1 := bkFrozen P2.out 1; clear hO hb2)
  have P3 := Lib.hid (bkPut P2.out 1 (.slice A' (t - f) c') (S.set1 s (some ⟨b, o, none⟩) A' n c0 (t - f) c'))
  have H3 := Lib.hid (bkFar H2.out (p := ⟨w.heap.size, 1, none⟩) (by simp) (.slice A' (t - f) c'))
  have O3 := Lib.hid (ownVC O2.out (p := ⟨w.heap.size, 1, none⟩) HP.out (.slice A' (t - f) c'))
  have B3 := B2.setCell (p := ⟨w.heap.size, 1, none⟩) (Nat.le_refl _) (.slice A' (t - f) c')
  clear p1 q1 f1 P2 H2 O2 B2
  generalize w2.setCell ⟨w.heap.size, 1, none⟩ (.slice A' (t - f) c') = w3 at *
  have p7 := (bkCell P3.out 7).trans (show _ = some (iv s.a7) from rfl)
  have p8 := (bkCell P3.out 8).trans (show _ = some (iv s.a8) from rfl)
  have p9 := (bkCell P3.out 9).trans (show _ = some (iv s.a9) from rfl)
  have f7 := bkFrozen P3.out 7
  have f8 := bkFrozen P3.out 8
  have f9 := bkFrozen P3.out 9
  go_upto_region 7 with (go_at_call 77; (with_reducible refine (C7.out _).mono ?_); rintro e w9 ⟨rfl, rfl⟩)
  have P4 := Lib.hid (bkPut (bkPut (bkPut P3.out 7 (iv (cropK s.a7 s.a8 s.a9 f t).1) (show _ = S.cs ⟨s.nm, s.a2, s.a3, s.a4, s.a5, s.a6, (cropK s.a7 s.a8 s.a9 f t).1, s.a8, s.a9, s.a10, s.a11, s.a12⟩ A' (t - f) c' from rfl)) 8 (iv (cropK s.a7 s.a8 s.a9 f t).2.1) (show _ = S.cs ⟨s.nm, s.a2, s.a3, s.a4, s.a5, s.a6, (cropK s.a7 s.a8 s.a9 f t).1, (cropK s.a7 s.a8 s.a9 f t).2.1, s.a9, s.a10, s.a11, s.a12⟩ A' (t - f) c' from rfl)) 9 (iv (cropK s.a7 s.a8 s.a9 f t).2.2) (show _ = S.cs ⟨s.nm, s.a2, s.a3, s.a4, s.a5, s.a6, (cropK s.a7 s.a8 s.a9 f t).1, (cropK s.a7 s.a8 s.a9 f t).2.1, (cropK s.a7 s.a8 s.a9 f t).2.2, s.a10, s.a11, s.a12⟩ A' (t - f) c' from rfl))
  have H4 := Lib.hid (bkFar (bkFar (bkFar H3.out (p := ⟨w.heap.size, 7, none⟩) (by simp) (iv (cropK s.a7 s.a8 s.a9 f t).1)) (p := ⟨w.heap.size, 8, none⟩) (by simp) (iv (cropK s.a7 s.a8 s.a9 f t).2.1)) (p := ⟨w.heap.size, 9, none⟩) (by simp) (iv (cropK s.a7 s.a8 s.a9 f t).2.2))
  have O4 := Lib.hid (ownVC (ownVC (ownVC O3.out (p := ⟨w.heap.size, 7, none⟩) HP.out (iv (cropK s.a7 s.a8 s.a9 f t).1)) (p := ⟨w.heap.size, 8, none⟩) HP.out (iv (cropK s.a7 s.a8 s.a9 f t).2.1)) (p := ⟨w.heap.size, 9, none⟩) HP.out (iv (cropK s.a7 s.a8 s.a9 f t).2.2))
  have B4 := (((B3.setCell (p := ⟨w.heap.size, 7, none⟩) (Nat.le_refl _) (iv (cropK s.a7 s.a8 s.a9 f t).1)).setCell (p := ⟨w.heap.size, 8, none⟩) (Nat.le_refl _) (iv (cropK s.a7 s.a8 s.a9 f t).2.1)).setCell (p := ⟨w.heap.size, 9, none⟩) (Nat.le_refl _) (iv (cropK s.a7 s.a8 s.a9 f t).2.2))
  clear p7 f7 p8 f8 p9 f9 P3 H3 O3 B3
  have p10 := (bkCell P4.out 10).trans (show _ = some (iv s.a10) from rfl)
  have p11 := (bkCell P4.out 11).trans (show _ = some (iv s.a11) from rfl)
  have p12 := (bkCell P4.out 12).trans (show _ = some (iv s.a12) from rfl)
  have f10 := bkFrozen P4.out 10
  have f11 := bkFrozen P4.out 11
  have f12 := bkFrozen P4.out 12
  go_upto_region 8 with (go_at_call 77; (with_reducible refine (C10.out _).mono ?_); rintro e w9 ⟨rfl, rfl⟩)
  have P5 := Lib.hid (bkPut (bkPut (bkPut P4.out 10 (iv (cropK s.a10 s.a11 s.a12 f t).1) (show _ = S.cs ⟨s.nm, s.a2, s.a3, s.a4, s.a5, s.a6, (cropK s.a7 s.a8 s.a9 f t).1, (cropK s.a7 s.a8 s.a9 f t).2.1, (cropK s.a7 s.a8 s.a9 f t).2.2, (cropK s.a10 s.a11 s.a12 f t).1, s.a11, s.a12⟩ A' (t - f) c' from rfl)) 11 (iv (cropK s.a10 s.a11 s.a12 f t).2.1) (show _ = S.cs ⟨s.nm, s.a2, s.a3, s.a4, s.a5, s.a6, (cropK s.a7 s.a8 s.a9 f t).1, (cropK s.a7 s.a8 s.a9 f t).2.1, (cropK s.a7 s.a8 s.a9 f t).2.2, (cropK s.a10 s.a11 s.a12 f t).1, (cropK s.a10 s.a11 s.a12 f t).2.1, s.a12⟩ A' (t - f) c' from rfl)) 12 (iv (cropK s.a10 s.a11 s.a12 f t).2.2) (show _ = S.cs ⟨s.nm, s.a2, s.a3, s.a4, s.a5, s.a6, (cropK s.a7 s.a8 s.a9 f t).1, (cropK s.a7 s.a8 s.a9 f t).2.1, (cropK s.a7 s.a8 s.a9 f t).2.2, (cropK s.a10 s.a11 s.a12 f t).1, (cropK s.a10 s.a11 s.a12 f t).2.1, (cropK s.a10 s.a11 s.a12 f t).2.2⟩ A' (t - f) c' from rfl))
  have H5 := Lib.hid (bkFar (bkFar (bkFar H4.out (p := ⟨w.heap.size, 10, none⟩) (by simp) (iv (cropK s.a10 s.a11 s.a12 f t).1)) (p := ⟨w.heap.size, 11, none⟩) (by simp) (iv (cropK s.a10 s.a11 s.a12 f t).2.1)) (p := ⟨w.heap.size, 12, none⟩) (by simp) (iv (cropK s.a10 s.a11 s.a12 f t).2.2))
  have O5 := Lib.hid (ownVC (ownVC (ownVC O4.out (p := ⟨w.heap.size, 10, none⟩) HP.out (iv (cropK s.a10 s.a11 s.a12 f t).1)) (p := ⟨w.heap.size, 11, none⟩) HP.out (iv (cropK s.a10 s.a11 s.a12 f t).2.1)) (p := ⟨w.heap.size, 12, none⟩) HP.out (iv (cropK s.a10 s.a11 s.a12 f t).2.2))
  have B5 := (((B4.setCell (p := ⟨w.heap.size, 10, none⟩) (Nat.le_refl _) (iv (cropK s.a10 s.a11 s.a12 f t).1)).setCell (p := ⟨w.heap.size, 11, none⟩) (Nat.le_refl _) (iv (cropK s.a10 s.a11 s.a12 f t).2.1)).setCell (p := ⟨w.heap.size, 12, none⟩) (Nat.le_refl _) (iv (cropK s.a10 s.a11 s.a12 f t).2.2))
  clear p10 f10 p11 f11 p12 f12 P4 H4 O4 B4
  have hT : cropS s f t = ⟨s.nm, s.a2, s.a3, s.a4, s.a5, s.a6, (cropK s.a7 s.a8 s.a9 f t).1, (cropK s.a7 s.a8 s.a9 f t).2.1, (cropK s.a7 s.a8 s.a9 f t).2.2, (cropK s.a10 s.a11 s.a12 f t).1, (cropK s.a10 s.a11 s.a12 f t).2.1, (cropK s.a10 s.a11 s.a12 f t).2.2⟩ := rfl
  go_wp2_with (first
    | (refine wpList_load_row rfl 24 (.tmp 3) rfl (w.heap.size) rfl 24 _ (0, 0) _ P5.out Try.underlying24 rfl (S.i24 _ _ _ _) ?_)
    | (refine wpList_store_row rfl 24 (.tmp 6) (.tmp 66) rfl (w.heap.size + 1) (S.cs ⟨s.nm, s.a2, s.a3, s.a4, s.a5, s.a6, (cropK s.a7 s.a8 s.a9 f t).1, (cropK s.a7 s.a8 s.a9 f t).2.1, (cropK s.a7 s.a8 s.a9 f t).2.2, (cropK s.a10 s.a11 s.a12 f t).1, (cropK s.a10 s.a11 s.a12 f t).2.1, (cropK s.a10 s.a11 s.a12 f t).2.2⟩ A' (t - f) c') rfl rfl 24 _ H5.out (S.i24 _ _ _ _) (S.sz S.zero _ none _ 0 0 _ _) (S.one _ _ _ _) ?_))
  refine bodyPost_ret (res_ct rfl _ _ (w.heap.size + 1) 24 _ (0, 0) _ rfl (setRow_heap _ _ _ _ _ _ H5.out) Try.underlying24 rfl (S.i24 _ _ _ _)) rfl ⟨A', c', rfl, ownBase2 (ownVR O5.out HH.out _) (Nat.le_of_lt HP.out), below_setRow B5 (by omega) _⟩
set_option maxHeartbeats 16000000 in
set_option maxRecDepth 100000 in
theorem scrop_none0 (s : S) (A : Option Addr) (n c0 b o : Nat) (xs : Nat → Int) (f t : Nat) (hv : vS s n xs = true) (hft : f = t) (hcf : f < c0) (hA0 : A = none) (htn : t ≤ n) (hn : n ≤ 9223372036854775807) (hc0 : n ≤ c0) (w : World) (hA : DataAt w A n b o xs) : Gives 32 #[.agg (s.cs A n c0), iv f, iv t] w (cropS s f t) (t - f) (fun i => xs (f + i)) 0 := by
  unfold Gives
  have H0 := Lib.hid (show ((w.alloc (Obj.cells (s.cs A n c0) 24)).alloc (Obj.cells #[Value.string ⟨#[]⟩, Value.slice none 0 0, iv 0, iv 0, iv 0, iv 0, iv 0, iv 0, iv 0, iv 0, iv 0, iv 0, iv 0] 24)).heap[w.heap.size + 1]? = some (.cells (S.zero.cs none 0 0) 24 (0, 0)) from heap_alloc2_new w (Obj.cells (s.cs A n c0) 24) (Obj.cells #[Value.string ⟨#[]⟩, Value.slice none 0 0, iv 0, iv 0, iv 0, iv 0, iv 0, iv 0, iv 0, iv 0, iv 0, iv 0, iv 0] 24))
  have B0 : Below w.heap.size w ((w.alloc (Obj.cells (s.cs A n c0) 24)).alloc (Obj.cells #[Value.string ⟨#[]⟩, Value.slice none 0 0, iv 0, iv 0, iv 0, iv 0, iv 0, iv 0, iv 0, iv 0, iv 0, iv 0, iv 0] 24)) := ((Below.refl _ _).alloc (Nat.le_refl _) _).alloc (by simp) _
  have P0 := Lib.hid (show ((w.alloc (Obj.cells (s.cs A n c0) 24)).alloc (Obj.cells #[Value.string ⟨#[]⟩, Value.slice none 0 0, iv 0, iv 0, iv 0, iv 0, iv 0, iv 0, iv 0, iv 0, iv 0, iv 0, iv 0] 24)).heap[w.heap.size]? = some (.cells (s.cs A n c0) 24 (0, 0)) from heap_alloc2_old w _ _)
  have D0 := Lib.hid (hA.later B0)
  have VC := Lib.hid (show ∀ (W : World), DataAt W A n b o xs → Calls Try.prog 15 #[.agg (s.cs A n c0)] W fun e w' => e = .returned (.bool true) ∧ Below W.heap.size W w' from fun W h => by have := valid_any s A n c0 b o xs hn hc0 W h; rwa [hv] at this)
  obtain ⟨_, _, n4, _, _, _, l7, l10⟩ := vS_yes hv
  unfold LpOk at l7 l10
  have HN := Lib.hid n4
  have d1 : decide ((f : Int) < 0) = false := decide_eq_false (by omega)
  have d2 : decide ((t : Int) < f) = false := decide_eq_false (by omega)
  have d3 : decide ((n : Int) < t) = false := decide_eq_false (by omega)
  have i0 : (0 : Int) ≤ (f : Int) := by omega
  have i1 : (0 : Int) ≤ (t : Int) := by omega
  have i2 : (f : Int) ≤ (t : Int) := by omega
  have i3 : (t : Int) ≤ (c0 : Int) := by omega
  have C7 := Lib.hid fun (W : World) => cropped_any s.a7 s.a8 s.a9 f t (by omega) (by omega) (by omega) W
  have C10 := Lib.hid fun (W : World) => cropped_any s.a10 s.a11 s.a12 f t (by omega) (by omega) (by omega) W
  subst hA0
  have hc1 : ¬ c0 = f := by omega
  have hc2 : ¬ f = c0 := by omega
  have e0 : t - f = 0 := by omega
  have CL := Lib.hid fun (AA : Option Addr) (cc : Nat) (W : World) => (show Calls Try.prog 76 #[.slice AA (t - f) cc] W fun e w' => ∃ v, e = .returned v ∧ w'.ownsRow W.heap.size 3 1 v (t - f) (rw_ (fun i => xs (f + i)) (t - f)) ∧ Below W.heap.size W w' from by rw [e0]; exact clone_any AA 0 cc 0 0 _ (by omega) W ⟨fun h => by omega, fun h => by omega, fun i h => by omega⟩)
  clear e0
  clear hft hcf
  clear hA hv l7 l10
  go_enter Try.func32, Try.ntmps32
  go_upto_region 5 with (first
    | (refine wpList_load_row rfl 24 (.tmp 3) rfl (w.heap.size) rfl 24 _ (0, 0) _ P0.out Try.underlying24 rfl (S.i24 _ _ _ _) ?_)
    | (go_at_call 15; (with_reducible refine (VC.out _ D0.out).mono ?_); rintro e w1 ⟨rfl, hb1⟩; have P1 := Lib.hid (bkBelow P0.out hb1); have H1 := Lib.hid (bkBelow H0.out hb1); have p1 := (bkCell P1.out 1).trans (show _ = some (Value.slice none n c0) from rfl); have D1 := Lib.hid (D0.out.later hb1); have B1 := bdT B0 B0.size hb1))
  have HP := Lib.hid (bkLt P1.out)
  have HH := Lib.hid (bkLt H1.out)
  have p1 := (bkCell P1.out 1).trans (show _ = some (Value.slice none n c0) from rfl)
  go_upto_region 6 with (go_at_call 76; (with_reducible refine (CL.out _ _ _).mono ?_); rintro e w2 ⟨v, rfl, hO, hb2⟩; obtain ⟨A', c', g', rfl, _, _⟩ := ownDataV hO; have P2 := Lib.hid (bkBelow P1.out hb2); have H2 := Lib.hid (bkBelow H1.out hb2); have B2 := bdT B1 B1.size hb2; have O2 := Lib.hid hO; have q1 := (bkCell P2.out 1).trans (show _ = some (Value.slice none n c0) from rfl); have f1 := bkFrozen P2.out 1; clear hO hb2)
  have P3 := Lib.hid (bkPut P2.out 1 (.slice A' (t - f) c') (S.set1 s none A' n c0 (t - f) c'))
  have H3 := Lib.hid (bkFar H2.out (p := ⟨w.heap.size, 1, none⟩) (by simp) (.slice A' (t - f) c'))
  have O3 := Lib.hid (ownVC O2.out (p := ⟨w.heap.size, 1, none⟩) HP.out (.slice A' (t - f) c'))
  have B3 := B2.setCell (p := ⟨w.heap.size, 1, none⟩) (Nat.le_refl _) (.slice A' (t - f) c')
  clear p1 q1 f1 P2 H2 O2 B2
  generalize w2.setCell ⟨w.heap.size, 1, none⟩ (.slice A' (t - f) c') = w3 at *
  have p7 := (bkCell P3.out 7).trans (show _ = some (iv s.a7) from rfl)
  have p8 := (bkCell P3.out 8).trans (show _ = some (iv s.a8) from rfl)
  have p9 := (bkCell P3.out 9).trans (show _ = some (iv s.a9) from rfl)
  have f7 := bkFrozen P3.out 7
  have f8 := bkFrozen P3.out 8
  have f9 := bkFrozen P3.out 9
  go_upto_region 7 with (go_at_call 77; (with_reducible refine (C7.out _).mono ?_); rintro e w9 ⟨rfl, rfl⟩)
  have P4 := Lib.hid (bkPut (bkPut (bkPut P3.out 7 (iv (cropK s.a7 s.a8 s.a9 f t).1) (show _ = S.cs ⟨s.nm, s.a2, s.a3, s.a4, s.a5, s.a6, (cropK s.a7 s.a8 s.a9 f t).1, s.a8, s.a9, s.a10, s.a11, s.a12⟩ A' (t - f) c' from rfl)) 8 (iv (cropK s.a7 s.a8 s.a9 f t).2.1) (show _ = S.cs ⟨s.nm, s.a2, s.a3, s.a4, s.a5, s.a6, (cropK s.a7 s.a8 s.a9 f t).1, (cropK s.a7 s.a8 s.a9 f t).2.1, s.a9, s.a10, s.a11, s.a12⟩ A' (t - f) c' from rfl)) 9 (iv (cropK s.a7 s.a8 s.a9 f t).2.2) (show _ = S.cs ⟨s.nm, s.a2, s.a3, s.a4, s.a5, s.a6, (cropK s.a7 s.a8 s.a9 f t).1, (cropK s.a7 s.a8 s.a9 f t).2.1, (cropK s.a7 s.a8 s.a9 f t).2.2, s.a10, s.a11, s.a12⟩ A' (t - f) c' from rfl))
  have H4 := Lib.hid (bkFar (bkFar (bkFar H3.out (p := ⟨w.heap.size, 7, none⟩) (by simp) (iv (cropK s.a7 s.a8 s.a9 f t).1)) (p := ⟨w.heap.size, 8, none⟩) (by simp) (iv (cropK s.a7 s.a8 s.a9 f t).2.1)) (p := ⟨w.heap.size, 9, none⟩) (by simp) (iv (cropK s.a7 s.a8 s.a9 f t).2.2))
  have O4 := Lib.hid (ownVC (ownVC (ownVC O3.out (p := ⟨w.heap.size, 7, none⟩) HP.out (iv (cropK s.a7 s.a8 s.a9 f t).1)) (p := ⟨w.heap.size, 8, none⟩) HP.out (iv (cropK s.a7 s.a8 s.a9 f t).2.1)) (p := ⟨w.heap.size, 9, none⟩) HP.out (iv (cropK s.a7 s.a8 s.a9 f t).2.2))
  have B4 := (((B3.setCell (p := ⟨w.heap.size, 7, none⟩) (Nat.le_refl _) (iv (cropK s.a7 s.a8 s.a9 f t).1)).setCell (p := ⟨w.heap.size, 8, none⟩) (Nat.le_refl _) (iv (cropK s.a7 s.a8 s.a9 f t).2.1)).setCell (p := ⟨w.heap.size, 9, none⟩) (Nat.le_refl _) (iv (cropK s.a7 s.a8 s.a9 f t).2.2))
  clear p7 f7 p8 f8 p9 f9 P3 H3 O3 B3
  have p10 := (bkCell P4.out 10).trans (show _ = some (iv s.a10) from rfl)
  have p11 := (bkCell P4.out 11).trans (show _ = some (iv s.a11) from rfl)
  have p12 := (bkCell P4.out 12).trans (show _ = some (iv s.a12) from rfl)
  have f10 := bkFrozen P4.out 10
  have f11 := bkFrozen P4.out 11
  have f12 := bkFrozen P4.out 12
  go_upto_region 8 with (go_at_call 77; (with_reducible refine (C10.out _).mono ?_); rintro e w9 ⟨rfl, rfl⟩)
  have P5 := Lib.hid (bkPut (bkPut (bkPut P4.out 10 (iv (cropK s.a10 s.a11 s.a12 f t).1) (show _ = S.cs ⟨s.nm, s.a2, s.a3, s.a4, s.a5, s.a6, (cropK s.a7 s.a8 s.a9 f t).1, (cropK s.a7 s.a8 s.a9 f t).2.1, (cropK s.a7 s.a8 s.a9 f t).2.2, (cropK s.a10 s.a11 s.a12 f t).1, s.a11, s.a12⟩ A' (t - f) c' from rfl)) 11 (iv (cropK s.a10 s.a11 s.a12 f t).2.1) (show _ = S.cs ⟨s.nm, s.a2, s.a3, s.a4, s.a5, s.a6, (cropK s.a7 s.a8 s.a9 f t).1, (cropK s.a7 s.a8 s.a9 f t).2.1, (cropK s.a7 s.a8 s.a9 f t).2.2, (cropK s.a10 s.a11 s.a12 f t).1, (cropK s.a10 s.a11 s.a12 f t).2.1, s.a12⟩ A' (t - f) c' from rfl)) 12 (iv (cropK s.a10 s.a11 s.a12 f t).2.2) (show _ = S.cs ⟨s.nm, s.a2, s.a3, s.a4, s.a5, s.a6, (cropK s.a7 s.a8 s.a9 f t).1, (cropK s.a7 s.a8 s.a9 f t).2.1, (cropK s.a7 s.a8 s.a9 f t).2.2, (cropK s.a10 s.a11 s.a12 f t).1, (cropK s.a10 s.a11 s.a12 f t).2.1, (cropK s.a10 s.a11 s.a12 f t).2.2⟩ A' (t - f) c' from rfl))
  have H5 := Lib.hid (bkFar (bkFar (bkFar H4.out (p := ⟨w.heap.size, 10, none⟩) (by simp) (iv (cropK s.a10 s.a11 s.a12 f t).1)) (p := ⟨w.heap.size, 11, none⟩) (by simp) (iv (cropK s.a10 s.a11 s.a12 f t).2.1)) (p := ⟨w.heap.size, 12, none⟩) (by simp) (iv (cropK s.a10 s.a11 s.a12 f t).2.2))
  have O5 := Lib.hid (ownVC (ownVC (ownVC O4.out (p := ⟨w.heap.size, 10, none⟩) HP.out (iv (cropK s.a10 s.a11 s.a12 f t).1)) (p := ⟨w.heap.size, 11, none⟩) HP.out (iv (cropK s.a10 s.a11 s.a12 f t).2.1)) (p := ⟨w.heap.size, 12, none⟩) HP.out (iv (cropK s.a10 s.a11 s.a12 f t).2.2))
  have B5 := (((B4.setCell (p := ⟨w.heap.size, 10, none⟩) (Nat.le_refl _) (iv (cropK s.a10 s.a11 s.a12 f t).1)).setCell (p := ⟨w.heap.size, 11, none⟩) (Nat.le_refl _) (iv (cropK s.a10 s.a11 s.a12 f t).2.1)).setCell (p := ⟨w.heap.size, 12, none⟩) (Nat.le_refl _) (iv (cropK s.a10 s.a11 s.a12 f t).2.2))
  clear p10 f10 p11 f11 p12 f12 P4 H4 O4 B4
  have hT : cropS s f t = ⟨s.nm, s.a2, s.a3, s.a4, s.a5, s.a6, (cropK s.a7 s.a8 s.a9 f t).1, (cropK s.a7 s.a8 s.a9 f t).2.1, (cropK s.a7 s.a8 s.a9 f t).2.2, (cropK s.a10 s.a11 s.a12 f t).1, (cropK s.a10 s.a11 s.a12 f t).2.1, (cropK s.a10 s.a11 s.a12 f t).2.2⟩ := rfl
  go_wp2_with (first
    | (refine wpList_load_row rfl 24 (.tmp 3) rfl (w.heap.size) rfl 24 _ (0, 0) _ P5.out Try.underlying24 rfl (S.i24 _ _ _ _) ?_)
    | (refine wpList_store_row rfl 24 (.tmp 6) (.tmp 66) rfl (w.heap.size + 1) (S.cs ⟨s.nm, s.a2, s.a3, s.a4, s.a5, s.a6, (cropK s.a7 s.a8 s.a9 f t).1, (cropK s.a7 s.a8 s.a9 f t).2.1, (cropK s.a7 s.a8 s.a9 f t).2.2, (cropK s.a10 s.a11 s.a12 f t).1, (cropK s.a10 s.a11 s.a12 f t).2.1, (cropK s.a10 s.a11 s.a12 f t).2.2⟩ A' (t - f) c') rfl rfl 24 _ H5.out (S.i24 _ _ _ _) (S.sz S.zero _ none _ 0 0 _ _) (S.one _ _ _ _) ?_))
  refine bodyPost_ret (res_ct rfl _ _ (w.heap.size + 1) 24 _ (0, 0) _ rfl (setRow_heap _ _ _ _ _ _ H5.out) Try.underlying24 rfl (S.i24 _ _ _ _)) rfl ⟨A', c', rfl, ownBase2 (ownVR O5.out HH.out _) (Nat.le_of_lt HP.out), below_setRow B5 (by omega) _⟩
set_option maxHeartbeats 16000000 in
set_option maxRecDepth 100000 in
theorem scrop_none1 (s : S) (A : Option Addr) (n c0 b o : Nat) (xs : Nat → Int) (f t : Nat) (hv : vS s n xs = true) (hft : f = t) (hcf : c0 = f) (hA0 : A = none) (htn : t ≤ n) (hn : n ≤ 9223372036854775807) (hc0 : n ≤ c0) (w : World) (hA : DataAt w A n b o xs) : Gives 32 #[.agg (s.cs A n c0), iv f, iv t] w (cropS s f t) (t - f) (fun i => xs (f + i)) 0 := by
  unfold Gives
  have H0 := Lib.hid (show ((w.alloc (Obj.cells (s.cs A n c0) 24)).alloc (Obj.cells #[Value.string ⟨#[]⟩, Value.slice none 0 0, iv 0, iv 0, iv 0, iv 0, iv 0, iv 0, iv 0, iv 0, iv 0, iv 0, iv 0] 24)).heap[w.heap.size + 1]? = some (.cells (S.zero.cs none 0 0) 24 (0, 0)) from heap_alloc2_new w (Obj.cells (s.cs A n c0) 24) (Obj.cells #[Value.string ⟨#[]⟩, Value.slice none 0 0, iv 0, iv 0, iv 0, iv 0, iv 0, iv 0, iv 0, iv 0, iv 0, iv 0, iv 0] 24))
  have B0 : Below w.heap.size w ((w.alloc (Obj.cells (s.cs A n c0) 24)).alloc (Obj.cells #[Value.string ⟨#[]⟩, Value.slice none 0 0, iv 0, iv 0, iv 0, iv 0, iv 0, iv 0, iv 0, iv 0, iv 0, iv 0, iv 0] 24)) := ((Below.refl _ _).alloc (Nat.le_refl _) _).alloc (by simp) _
  have P0 := Lib.hid (show ((w.alloc (Obj.cells (s.cs A n c0) 24)).alloc (Obj.cells #[Value.string ⟨#[]⟩, Value.slice none 0 0, iv 0, iv 0, iv 0, iv 0, iv 0, iv 0, iv 0, iv 0, iv 0, iv 0, iv 0] 24)).heap[w.heap.size]? = some (.cells (s.cs A n c0) 24 (0, 0)) from heap_alloc2_old w _ _)
  have D0 := Lib.hid (hA.later B0)
  have VC := Lib.hid (show ∀ (W : World), DataAt W A n b o xs → Calls Try.prog 15 #[.agg (s.cs A n c0)] W fun e w' => e = .returned (.bool true) ∧ Below W.heap.size W w' from fun W h => by have := valid_any s A n c0 b o xs hn hc0 W h; rwa [hv] at this)
  obtain ⟨_, _, n4, _, _, _, l7, l10⟩ := vS_yes hv
  unfold LpOk at l7 l10
  have HN := Lib.hid n4
  have d1 : decide ((f : Int) < 0) = false := decide_eq_false (by omega)
  have d2 : decide ((t : Int) < f) = false := decide_eq_false (by omega)
  have d3 : decide ((n : Int) < t) = false := decide_eq_false (by omega)
  have i0 : (0 : Int) ≤ (f : Int) := by omega
  have i1 : (0 : Int) ≤ (t : Int) := by omega
  have i2 : (f : Int) ≤ (t : Int) := by omega
  have i3 : (t : Int) ≤ (c0 : Int) := by omega
  have C7 := Lib.hid fun (W : World) => cropped_any s.a7 s.a8 s.a9 f t (by omega) (by omega) (by omega) W
  have C10 := Lib.hid fun (W : World) => cropped_any s.a10 s.a11 s.a12 f t (by omega) (by omega) (by omega) W
  subst hA0
  have hc1 : (c0 = f) = True := eq_true hcf
  have hc2 : (f = c0) = True := eq_true hcf.symm
  have e0 : t - f = 0 := by omega
  have CL := Lib.hid fun (AA : Option Addr) (cc : Nat) (W : World) => (show Calls Try.prog 76 #[.slice AA (t - f) cc] W fun e w' => ∃ v, e = .returned v ∧ w'.ownsRow W.heap.size 3 1 v (t - f) (rw_ (fun i => xs (f + i)) (t - f)) ∧ Below W.heap.size W w' from by rw [e0]; exact clone_any AA 0 cc 0 0 _ (by omega) W ⟨fun h => by omega, fun h => by omega, fun i h => by omega⟩)
  clear e0
  clear hft hcf
  clear hA hv l7 l10
  go_enter Try.func32, Try.ntmps32
  go_upto_region 5 with (first
    | (refine wpList_load_row rfl 24 (.tmp 3) rfl (w.heap.size) rfl 24 _ (0, 0) _ P0.out Try.underlying24 rfl (S.i24 _ _ _ _) ?_)
    | (go_at_call 15; (with_reducible refine (VC.out _ D0.out).mono ?_); rintro e w1 ⟨rfl, hb1⟩; have P1 := Lib.hid (bkBelow P0.out hb1); have H1 := Lib.hid (bkBelow H0.out hb1); have p1 := (bkCell P1.out 1).trans (show _ = some (Value.slice none n c0) from rfl); have D1 := Lib.hid (D0.out.later hb1); have B1 := bdT B0 B0.size hb1))
  have HP := Lib.hid (bkLt P1.out)
  have HH := Lib.hid (bkLt H1.out)
  have p1 := (bkCell P1.out 1).trans (show _ = some (Value.slice none n c0) from rfl)
  go_upto_region 6 with (go_at_call 76; (with_reducible refine (CL.out _ _ _).mono ?_); rintro e w2 ⟨v, rfl, hO, hb2⟩; obtain ⟨A', c', g', rfl, _, _⟩ := ownDataV hO; have P2 := Lib.hid (bkBelow P1.out hb2); have H2 := Lib.hid (bkBelow H1.out hb2); have B2 := bdT B1 B1.size hb2; have O2 := Lib.hid hO; have q1 := (bkCell P2.out 1).trans (show _ = some (Value.slice none n c0) from rfl); have f1 := bkFrozen P2.out 1; clear hO hb2)
  have P3 := Lib.hid (bkPut P2.out 1 (.slice A' (t - f) c') (S.set1 s none A' n c0 (t - f) c'))
  have H3 := Lib.hid (bkFar H2.out (p := ⟨w.heap.size, 1, none⟩) (by simp) (.slice A' (t - f) c'))
  have O3 := Lib.hid (ownVC O2.out (p := ⟨w.heap.size, 1, none⟩) HP.out (.slice A' (t - f) c'))
  have B3 := B2.setCell (p := ⟨w.heap.size, 1, none⟩) (Nat.le_refl _) (.slice A' (t - f) c')
  clear p1 q1 f1 P2 H2 O2 B2
  generalize w2.setCell ⟨w.heap.size, 1, none⟩ (.slice A' (t - f) c') = w3 at *
  have p7 := (bkCell P3.out 7).trans (show _ = some (iv s.a7) from rfl)
  have p8 := (bkCell P3.out 8).trans (show _ = some (iv s.a8) from rfl)
  have p9 := (bkCell P3.out 9).trans (show _ = some (iv s.a9) from rfl)
  have f7 := bkFrozen P3.out 7
  have f8 := bkFrozen P3.out 8
  have f9 := bkFrozen P3.out 9
  go_upto_region 7 with (go_at_call 77; (with_reducible refine (C7.out _).mono ?_); rintro e w9 ⟨rfl, rfl⟩)
  have P4 := Lib.hid (bkPut (bkPut (bkPut P3.out 7 (iv (cropK s.a7 s.a8 s.a9 f t).1) (show _ = S.cs ⟨s.nm, s.a2, s.a3, s.a4, s.a5, s.a6, (cropK s.a7 s.a8 s.a9 f t).1, s.a8, s.a9, s.a10, s.a11, s.a12⟩ A' (t - f) c' from rfl)) 8 (iv (cropK s.a7 s.a8 s.a9 f t).2.1) (show _ = S.cs ⟨s.nm, s.a2, s.a3, s.a4, s.a5, s.a6, (cropK s.a7 s.a8 s.a9 f t).1, (cropK s.a7 s.a8 s.a9 f t).2.1, s.a9, s.a10, s.a11, s.a12⟩ A' (t - f) c' from rfl)) 9 (iv (cropK s.a7 s.a8 s.a9 f t).2.2) (show _ = S.cs ⟨s.nm, s.a2, s.a3, s.a4, s.a5, s.a6, (cropK s.a7 s.a8 s.a9 f t).1, (cropK s.a7 s.a8 s.a9 f t).2.1, (cropK s.a7 s.a8 s.a9 f t).2.2, s.a10, s.a11, s.a12⟩ A' (t - f) c' from rfl))
  have H4 := Lib.hid (bkFar (bkFar (bkFar H3.out (p := ⟨w.heap.size, 7, none⟩) (by simp) (iv (cropK s.a7 s.a8 s.a9 f t).1)) (p := ⟨w.heap.size, 8, none⟩) (by simp) (iv (cropK s.a7 s.a8 s.a9 f t).2.1)) (p := ⟨w.heap.size, 9, none⟩) (by simp) (iv (cropK s.a7 s.a8 s.a9 f t).2.2))
  have O4 := Lib.hid (ownVC (ownVC (ownVC O3.out (p := ⟨w.heap.size, 7, none⟩) HP.out (iv (cropK s.a7 s.a8 s.a9 f t).1)) (p := ⟨w.heap.size, 8, none⟩) HP.out (iv (cropK s.a7 s.a8 s.a9 f t).2.1)) (p := ⟨w.heap.size, 9, none⟩) HP.out (iv (cropK s.a7 s.a8 s.a9 f t).2.2))
  have B4 := (((B3.setCell (p := ⟨w.heap.size, 7, none⟩) (Nat.le_refl _) (iv (cropK s.a7 s.a8 s.a9 f t).1)).setCell (p := ⟨w.heap.size, 8, none⟩) (Nat.le_refl _) (iv (cropK s.a7 s.a8 s.a9 f t).2.1)).setCell (p := ⟨w.heap.size, 9, none⟩) (Nat.le_refl _) (iv (cropK s.a7 s.a8 s.a9 f t).2.2))
  clear p7 f7 p8 f8 p9 f9 P3 H3 O3 B3
  have p10 := (bkCell P4.out 10).trans (show _ = some (iv s.a10) from rfl)
  have p11 := (bkCell P4.out 11).trans (show _ = some (iv s.a11) from rfl)
  have p12 := (bkCell P4.out 12).trans (show _ = some (iv s.a12) from rfl)
  have f10 := bkFrozen P4.out 10
  have f11 := bkFrozen P4.out 11
  have f12 := bkFrozen P4.out 12
  go_upto_region 8 with (go_at_call 77; (with_reducible refine (C10.out _).mono ?_); rintro e w9 ⟨rfl, rfl⟩)
  have P5 := Lib.hid (bkPut (bkPut (bkPut P4.out 10 (iv (cropK s.a10 s.a11 s.a12 f t).1) (show _ = S.cs ⟨s.nm, s.a2, s.a3, s.a4, s.a5, s.a6, (cropK s.a7 s.a8 s.a9 f t).1, (cropK s.a7 s.a8 s.a9 f t).2.1, (cropK s.a7 s.a8 s.a9 f t).2.2, (cropK s.a10 s.a11 s.a12 f t).1, s.a11, s.a12⟩ A' (t - f) c' from rfl)) 11 (iv (cropK s.a10 s.a11 s.a12 f t).2.1) (show _ = S.cs ⟨s.nm, s.a2, s.a3, s.a4, s.a5, s.a6, (cropK s.a7 s.a8 s.a9 f t).1, (cropK s.a7 s.a8 s.a9 f t).2.1, (cropK s.a7 s.a8 s.a9 f t).2.2, (cropK s.a10 s.a11 s.a12 f t).1, (cropK s.a10 s.a11 s.a12 f t).2.1, s.a12⟩ A' (t - f) c' from rfl)) 12 (iv (cropK s.a10 s.a11 s.a12 f t).2.2) (show _ = S.cs ⟨s.nm, s.a2, s.a3, s.a4, s.a5, s.a6, (cropK s.a7 s.a8 s.a9 f t).1, (cropK s.a7 s.a8 s.a9 f t).2.1, (cropK s.a7 s.a8 s.a9 f t).2.2, (cropK s.a10 s.a11 s.a12 f t).1, (cropK s.a10 s.a11 s.a12 f t).2.1, (cropK s.a10 s.a11 s.a12 f t).2.2⟩ A' (t - f) c' from rfl))
  have H5 := Lib.hid (bkFar (bkFar (bkFar H4.out (p := ⟨w.heap.size, 10, none⟩) (by simp) (iv (cropK s.a10 s.a11 s.a12 f t).1)) (p := ⟨w.heap.size, 11, none⟩) (by simp) (iv (cropK s.a10 s.a11 s.a12 f t).2.1)) (p := ⟨w.heap.size, 12, none⟩) (by simp) (iv (cropK s.a10 s.a11 s.a12 f t).2.2))
  have O5 := Lib.hid (ownVC (ownVC (ownVC O4.out (p := ⟨w.heap.size, 10, none⟩) HP.out (iv (cropK s.a10 s.a11 s.a12 f t).1)) (p := ⟨w.heap.size, 11, none⟩) HP.out (iv (cropK s.a10 s.a11 s.a12 f t).2.1)) (p := ⟨w.heap.size, 12, none⟩) HP.out (iv (cropK s.a10 s.a11 s.a12 f t).2.2))
  have B5 := (((B4.setCell (p := ⟨w.heap.size, 10, none⟩) (Nat.le_refl _) (iv (cropK s.a10 s.a11 s.a12 f t).1)).setCell (p := ⟨w.heap.size, 11, none⟩) (Nat.le_refl _) (iv (cropK s.a10 s.a11 s.a12 f t).2.1)).setCell (p := ⟨w.heap.size, 12, none⟩) (Nat.le_refl _) (iv (cropK s.a10 s.a11 s.a12 f t).2.2))
  clear p10 f10 p11 f11 p12 f12 P4 H4 O4 B4
  have hT : cropS s f t = ⟨s.nm, s.a2, s.a3, s.a4, s.a5, s.a6, (cropK s.a7 s.a8 s.a9 f t).1, (cropK s.a7 s.a8 s.a9 f t).2.1, (cropK s.a7 s.a8 s.a9 f t).2.2, (cropK s.a10 s.a11 s.a12 f t).1, (cropK s.a10 s.a11 s.a12 f t).2.1, (cropK s.a10 s.a11 s.a12 f t).2.2⟩ := rfl
  go_wp2_with (first
    | (refine wpList_load_row rfl 24 (.tmp 3) rfl (w.heap.size) rfl 24 _ (0, 0) _ P5.out Try.underlying24 rfl (S.i24 _ _ _ _) ?_)
    | (refine wpList_store_row rfl 24 (.tmp 6) (.tmp 66) rfl (w.heap.size + 1) (S.cs ⟨s.nm, s.a2, s.a3, s.a4, s.a5, s.a6, (cropK s.a7 s.a8 s.a9 f t).1, (cropK s.a7 s.a8 s.a9 f t).2.1, (cropK s.a7 s.a8 s.a9 f t).2.2, (cropK s.a10 s.a11 s.a12 f t).1, (cropK s.a10 s.a11 s.a12 f t).2.1, (cropK s.a10 s.a11 s.a12 f t).2.2⟩ A' (t - f) c') rfl rfl 24 _ H5.out (S.i24 _ _ _ _) (S.sz S.zero _ none _ 0 0 _ _) (S.one _ _ _ _) ?_))
  refine bodyPost_ret (res_ct rfl _ _ (w.heap.size + 1) 24 _ (0, 0) _ rfl (setRow_heap _ _ _ _ _ _ H5.out) Try.underlying24 rfl (S.i24 _ _ _ _)) rfl ⟨A', c', rfl, ownBase2 (ownVR O5.out HH.out _) (Nat.le_of_lt HP.out), below_setRow B5 (by omega) _⟩
set_option maxHeartbeats 16000000 in
set_option maxRecDepth 100000 in
theorem scrop_some0 (s : S) (A : Option Addr) (n c0 b o : Nat) (xs : Nat → Int) (f t : Nat) (hv : vS s n xs = true) (ad : Addr) (hft : f = t) (hcf : f < c0) (hA0 : A = (some ad)) (htn : t ≤ n) (hn : n ≤ 9223372036854775807) (hc0 : n ≤ c0) (w : World) (hA : DataAt w A n b o xs) : Gives 32 #[.agg (s.cs A n c0), iv f, iv t] w (cropS s f t) (t - f) (fun i => xs (f + i)) 0 := by
  unfold Gives
  have H0 := Lib.hid (show ((w.alloc (Obj.cells (s.cs A n c0) 24)).alloc (Obj.cells #[Value.string ⟨#[]⟩, Value.slice none 0 0, iv 0, iv 0, iv 0, iv 0, iv 0, iv 0, iv 0, iv 0, iv 0, iv 0, iv 0] 24)).heap[w.heap.size + 1]? = some (.cells (S.zero.cs none 0 0) 24 (0, 0)) from heap_alloc2_new w (Obj.cells (s.cs A n c0) 24) (Obj.cells #[Value.string ⟨#[]⟩, Value.slice none 0 0, iv 0, iv 0, iv 0, iv 0, iv 0, iv 0, iv 0, iv 0, iv 0, iv 0, iv 0] 24))
  have B0 : Below w.heap.size w ((w.alloc (Obj.cells (s.cs A n c0) 24)).alloc (Obj.cells #[Value.string ⟨#[]⟩, Value.slice none 0 0, iv 0, iv 0, iv 0, iv 0, iv 0, iv 0, iv 0, iv 0, iv 0, iv 0, iv 0] 24)) := ((Below.refl _ _).alloc (Nat.le_refl _) _).alloc (by simp) _
  have P0 := Lib.hid (show ((w.alloc (Obj.cells (s.cs A n c0) 24)).alloc (Obj.cells #[Value.string ⟨#[]⟩, Value.slice none 0 0, iv 0, iv 0, iv 0, iv 0, iv 0, iv 0, iv 0, iv 0, iv 0, iv 0, iv 0] 24)).heap[w.heap.size]? = some (.cells (s.cs A n c0) 24 (0, 0)) from heap_alloc2_old w _ _)
  have D0 := Lib.hid (hA.later B0)
  have VC := Lib.hid (show ∀ (W : World), DataAt W A n b o xs → Calls Try.prog 15 #[.agg (s.cs A n c0)] W fun e w' => e = .returned (.bool true) ∧ Below W.heap.size W w' from fun W h => by have := valid_any s A n c0 b o xs hn hc0 W h; rwa [hv] at this)
  obtain ⟨_, _, n4, _, _, _, l7, l10⟩ := vS_yes hv
  unfold LpOk at l7 l10
  have HN := Lib.hid n4
  have d1 : decide ((f : Int) < 0) = false := decide_eq_false (by omega)
  have d2 : decide ((t : Int) < f) = false := decide_eq_false (by omega)
  have d3 : decide ((n : Int) < t) = false := decide_eq_false (by omega)
  have i0 : (0 : Int) ≤ (f : Int) := by omega
  have i1 : (0 : Int) ≤ (t : Int) := by omega
  have i2 : (f : Int) ≤ (t : Int) := by omega
  have i3 : (t : Int) ≤ (c0 : Int) := by omega
  have C7 := Lib.hid fun (W : World) => cropped_any s.a7 s.a8 s.a9 f t (by omega) (by omega) (by omega) W
  have C10 := Lib.hid fun (W : World) => cropped_any s.a10 s.a11 s.a12 f t (by omega) (by omega) (by omega) W
  subst hA0
  have hc1 : ¬ c0 = f := by omega
  have hc2 : ¬ f = c0 := by omega
  have e0 : t - f = 0 := by omega
  have CL := Lib.hid fun (AA : Option Addr) (cc : Nat) (W : World) => (show Calls Try.prog 76 #[.slice AA (t - f) cc] W fun e w' => ∃ v, e = .returned v ∧ w'.ownsRow W.heap.size 3 1 v (t - f) (rw_ (fun i => xs (f + i)) (t - f)) ∧ Below W.heap.size W w' from by rw [e0]; exact clone_any AA 0 cc 0 0 _ (by omega) W ⟨fun h => by omega, fun h => by omega, fun i h => by omega⟩)
  clear e0
  clear hft hcf
  clear hA hv l7 l10
  go_enter Try.func32, Try.ntmps32
  go_upto_region 5 with (first
    | (refine wpList_load_row rfl 24 (.tmp 3) rfl (w.heap.size) rfl 24 _ (0, 0) _ P0.out Try.underlying24 rfl (S.i24 _ _ _ _) ?_)
    | (go_at_call 15; (with_reducible refine (VC.out _ D0.out).mono ?_); rintro e w1 ⟨rfl, hb1⟩; have P1 := Lib.hid (bkBelow P0.out hb1); have H1 := Lib.hid (bkBelow H0.out hb1); have p1 := (bkCell P1.out 1).trans (show _ = some (Value.slice (some ad) n c0) from rfl); have D1 := Lib.hid (D0.out.later hb1); have B1 := bdT B0 B0.size hb1))
  have HP := Lib.hid (bkLt P1.out)
  have HH := Lib.hid (bkLt H1.out)
  have p1 := (bkCell P1.out 1).trans (show _ = some (Value.slice (some ad) n c0) from rfl)
  go_upto_region 6 with (go_at_call 76; (with_reducible refine (CL.out _ _ _).mono ?_); rintro e w2 ⟨v, rfl, hO, hb2⟩; obtain ⟨A', c', g', rfl, _, _⟩ := ownDataV hO; have P2 := Lib.hid (bkBelow P1.out hb2); have H2 := Lib.hid (bkBelow H1.out hb2); have B2 := bdT B1 B1.size hb2; have O2 := Lib.hid hO; have q1 := (bkCell P2.out 1).trans (show _ = some (Value.slice (some ad) n c0) from rfl); have f1 := bkFrozen P2.out 1; clear hO hb2)
  have P3 := Lib.hid (bkPut P2.out 1 (.slice A' (t - f) c') (S.set1 s (some ad) A' n c0 (t - f) c'))
  have H3 := Lib.hid (bkFar H2.out (p := ⟨w.heap.size, 1, none⟩) (by simp) (.slice A' (t - f) c'))
  have O3 := Lib.hid (ownVC O2.out (p := ⟨w.heap.size, 1, none⟩) HP.out (.slice A' (t - f) c'))
  have B3 := B2.setCell (p := ⟨w.heap.size, 1, none⟩) (Nat.le_refl _) (.slice A' (t - f) c')
  clear p1 q1 f1 P2 H2 O2 B2
  generalize w2.setCell ⟨w.heap.size, 1, none⟩ (.slice A' (t - f) c') = w3 at *
  have p7 := (bkCell P3.out 7).trans (show _ = some (iv s.a7) from rfl)
  have p8 := (bkCell P3.out 8).trans (show _ = some (iv s.a8) from rfl)
  have p9 := (bkCell P3.out 9).trans (show _ = some (iv s.a9) from rfl)
  have f7 := bkFrozen P3.out 7
  have f8 := bkFrozen P3.out 8
  have f9 := bkFrozen P3.out 9
  go_upto_region 7 with (go_at_call 77; (with_reducible refine (C7.out _).mono ?_); rintro e w9 ⟨rfl, rfl⟩)
  have P4 := Lib.hid (bkPut (bkPut (bkPut P3.out 7 (iv (cropK s.a7 s.a8 s.a9 f t).1) (show _ = S.cs ⟨s.nm, s.a2, s.a3, s.a4, s.a5, s.a6, (cropK s.a7 s.a8 s.a9 f t).1, s.a8, s.a9, s.a10, s.a11, s.a12⟩ A' (t - f) c' from rfl)) 8 (iv (cropK s.a7 s.a8 s.a9 f t).2.1) (show _ = S.cs ⟨s.nm, s.a2, s.a3, s.a4, s.a5, s.a6, (cropK s.a7 s.a8 s.a9 f t).1, (cropK s.a7 s.a8 s.a9 f t).2.1, s.a9, s.a10, s.a11, s.a12⟩ A' (t - f) c' from rfl)) 9 (iv (cropK s.a7 s.a8 s.a9 f t).2.2) (show _ = S.cs ⟨s.nm, s.a2, s.a3, s.a4, s.a5, s.a6, (cropK s.a7 s.a8 s.a9 f t).1, (cropK s.a7 s.a8 s.a9 f t).2.1, (cropK s.a7 s.a8 s.a9 f t).2.2, s.a10, s.a11, s.a12⟩ A' (t - f) c' from rfl))
  have H4 := Lib.hid (bkFar (bkFar (bkFar H3.out (p := ⟨w.heap.size, 7, none⟩) (by simp) (iv (cropK s.a7 s.a8 s.a9 f t).1)) (p := ⟨w.heap.size, 8, none⟩) (by simp) (iv (cropK s.a7 s.a8 s.a9 f t).2.1)) (p := ⟨w.heap.size, 9, none⟩) (by simp) (iv (cropK s.a7 s.a8 s.a9 f t).2.2))
  have O4 := Lib.hid (ownVC (ownVC (ownVC O3.out (p := ⟨w.heap.size, 7, none⟩) HP.out (iv (cropK s.a7 s.a8 s.a9 f t).1)) (p := ⟨w.heap.size, 8, none⟩) HP.out (iv (cropK s.a7 s.a8 s.a9 f t).2.1)) (p := ⟨w.heap.size, 9, none⟩) HP.out (iv (cropK s.a7 s.a8 s.a9 f t).2.2))
  have B4 := (((B3.setCell (p := ⟨w.heap.size, 7, none⟩) (Nat.le_refl _) (iv (cropK s.a7 s.a8 s.a9 f t).1)).setCell (p := ⟨w.heap.size, 8, none⟩) (Nat.le_refl _) (iv (cropK s.a7 s.a8 s.a9 f t).2.1)).setCell (p := ⟨w.heap.size, 9, none⟩) (Nat.le_refl _) (iv (cropK s.a7 s.a8 s.a9 f t).2.2))
  clear p7 f7 p8 f8 p9 f9 P3 H3 O3 B3
  have p10 := (bkCell P4.out 10).trans (show _ = some (iv s.a10) from rfl)
  have p11 := (bkCell P4.out 11).trans (show _ = some (iv s.a11) from rfl)
  have p12 := (bkCell P4.out 12).trans (show _ = some (iv s.a12) from rfl)
  have f10 := bkFrozen P4.out 10
  have f11 := bkFrozen P4.out 11
  have f12 := bkFrozen P4.out 12
  go_upto_region 8 with (go_at_call 77; (with_reducible refine (C10.out _).mono ?_); rintro e w9 ⟨rfl, rfl⟩)
  have P5 := Lib.hid (bkPut (bkPut (bkPut P4.out 10 (iv (cropK s.a10 s.a11 s.a12 f t).1) (show _ = S.cs ⟨s.nm, s.a2, s.a3, s.a4, s.a5, s.a6, (cropK s.a7 s.a8 s.a9 f t).1, (cropK s.a7 s.a8 s.a9 f t).2.1, (cropK s.a7 s.a8 s.a9 f t).2.2, (cropK s.a10 s.a11 s.a12 f t).1, s.a11, s.a12⟩ A' (t - f) c' from rfl)) 11 (iv (cropK s.a10 s.a11 s.a12 f t).2.1) (show _ = S.cs ⟨s.nm, s.a2, s.a3, s.a4, s.a5, s.a6, (cropK s.a7 s.a8 s.a9 f t).1, (cropK s.a7 s.a8 s.a9 f t).2.1, (cropK s.a7 s.a8 s.a9 f t).2.2, (cropK s.a10 s.a11 s.a12 f t).1, (cropK s.a10 s.a11 s.a12 f t).2.1, s.a12⟩ A' (t - f) c' from rfl)) 12 (iv (cropK s.a10 s.a11 s.a12 f t).2.2) (show _ = S.cs ⟨s.nm, s.a2, s.a3, s.a4, s.a5, s.a6, (cropK s.a7 s.a8 s.a9 f t).1, (cropK s.a7 s.a8 s.a9 f t).2.1, (cropK s.a7 s.a8 s.a9 f t).2.2, (cropK s.a10 s.a11 s.a12 f t).1, (cropK s.a10 s.a11 s.a12 f t).2.1, (cropK s.a10 s.a11 s.a12 f t).2.2⟩ A' (t - f) c' from rfl))
  have H5 := Lib.hid (bkFar (bkFar (bkFar H4.out (p := ⟨w.heap.size, 10, none⟩) (by simp) (iv (cropK s.a10 s.a11 s.a12 f t).1)) (p := ⟨w.heap.size, 11, none⟩) (by simp) (iv (cropK s.a10 s.a11 s.a12 f t).2.1)) (p := ⟨w.heap.size, 12, none⟩) (by simp) (iv (cropK s.a10 s.a11 s.a12 f t).2.2))
  have O5 := Lib.hid (ownVC (ownVC (ownVC O4.out (p := ⟨w.heap.size, 10, none⟩) HP.out (iv (cropK s.a10 s.a11 s.a12 f t).1)) (p := ⟨w.heap.size, 11, none⟩) HP.out (iv (cropK s.a10 s.a11 s.a12 f t).2.1)) (p := ⟨w.heap.size, 12, none⟩) HP.out (iv (cropK s.a10 s.a11 s.a12 f t).2.2))
  have B5 := (((B4.setCell (p := ⟨w.heap.size, 10, none⟩) (Nat.le_refl _) (iv (cropK s.a10 s.a11 s.a12 f t).1)).setCell (p := ⟨w.heap.size, 11, none⟩) (Nat.le_refl _) (iv (cropK s.a10 s.a11 s.a12 f t).2.1)).setCell (p := ⟨w.heap.size, 12, none⟩) (Nat.le_refl _) (iv (cropK s.a10 s.a11 s.a12 f t).2.2))
  clear p10 f10 p11 f11 p12 f12 P4 H4 O4 B4
  have hT : cropS s f t = ⟨s.nm, s.a2, s.a3, s.a4, s.a5, s.a6, (cropK s.a7 s.a8 s.a9 f t).1, (cropK s.a7 s.a8 s.a9 f t).2.1, (cropK s.a7 s.a8 s.a9 f t).2.2, (cropK s.a10 s.a11 s.a12 f t).1, (cropK s.a10 s.a11 s.a12 f t).2.1, (cropK s.a10 s.a11 s.a12 f t).2.2⟩ := rfl
  go_wp2_with (first
    | (refine wpList_load_row rfl 24 (.tmp 3) rfl (w.heap.size) rfl 24 _ (0, 0) _ P5.out Try.underlying24 rfl (S.i24 _ _ _ _) ?_)
    | (refine wpList_store_row rfl 24 (.tmp 6) (.tmp 66) rfl (w.heap.size + 1) (S.cs ⟨s.nm, s.a2, s.a3, s.a4, s.a5, s.a6, (cropK s.a7 s.a8 s.a9 f t).1, (cropK s.a7 s.a8 s.a9 f t).2.1, (cropK s.a7 s.a8 s.a9 f t).2.2, (cropK s.a10 s.a11 s.a12 f t).1, (cropK s.a10 s.a11 s.a12 f t).2.1, (cropK s.a10 s.a11 s.a12 f t).2.2⟩ A' (t - f) c') rfl rfl 24 _ H5.out (S.i24 _ _ _ _) (S.sz S.zero _ none _ 0 0 _ _) (S.one _ _ _ _) ?_))
  refine bodyPost_ret (res_ct rfl _ _ (w.heap.size + 1) 24 _ (0, 0) _ rfl (setRow_heap _ _ _ _ _ _ H5.out) Try.underlying24 rfl (S.i24 _ _ _ _)) rfl ⟨A', c', rfl, ownBase2 (ownVR O5.out HH.out _) (Nat.le_of_lt HP.out), below_setRow B5 (by omega) _⟩
set_option maxHeartbeats 16000000 in
set_option maxRecDepth 100000 in
theorem scrop_some1 (s : S) (A : Option Addr) (n c0 b o : Nat) (xs : Nat → Int) (f t : Nat) (hv : vS s n xs = true) (ad : Addr) (hft : f = t) (hcf : c0 = f) (hA0 : A = (some ad)) (htn : t ≤ n) (hn : n ≤ 9223372036854775807) (hc0 : n ≤ c0) (w : World) (hA : DataAt w A n b o xs) : Gives 32 #[.agg (s.cs A n c0), iv f, iv t] w (cropS s f t) (t - f) (fun i => xs (f + i)) 0 := by
  unfold Gives
  have H0 := Lib.hid (show ((w.alloc (Obj.cells (s.cs A n c0) 24)).alloc (Obj.cells #[Value.string ⟨#[]⟩, Value.slice none 0 0, iv 0, iv 0, iv 0, iv 0, iv 0, iv 0, iv 0, iv 0, iv 0, iv 0, iv 0] 24)).heap[w.heap.size + 1]? = some (.cells (S.zero.cs none 0 0) 24 (0, 0)) from heap_alloc2_new w (Obj.cells (s.cs A n c0) 24) (Obj.cells #[Value.string ⟨#[]⟩, Value.slice none 0 0, iv 0, iv 0, iv 0, iv 0, iv 0, iv 0, iv 0, iv 0, iv 0, iv 0, iv 0] 24))
  have B0 : Below w.heap.size w ((w.alloc (Obj.cells (s.cs A n c0) 24)).alloc (Obj.cells #[Value.string ⟨#[]⟩, Value.slice none 0 0, iv 0, iv 0, iv 0, iv 0, iv 0, iv 0, iv 0, iv 0, iv 0, iv 0, iv 0] 24)) := ((Below.refl _ _).alloc (Nat.le_refl _) _).alloc (by simp) _
  have P0 := Lib.hid (show ((w.alloc (Obj.cells (s.cs A n c0) 24)).alloc (Obj.cells #[Value.string ⟨#[]⟩, Value.slice none 0 0, iv 0, iv 0, iv 0, iv 0, iv 0, iv 0, iv 0, iv 0, iv 0, iv 0, iv 0] 24)).heap[w.heap.size]? = some (.cells (s.cs A n c0) 24 (0, 0)) from heap_alloc2_old w _ _)
  have D0 := Lib.hid (hA.later B0)
  have VC := Lib.hid (show ∀ (W : World), DataAt W A n b o xs → Calls Try.prog 15 #[.agg (s.cs A n c0)] W fun e w' => e = .returned (.bool true) ∧ Below W.heap.size W w' from fun W h => by have := valid_any s A n c0 b o xs hn hc0 W h; rwa [hv] at this)
  obtain ⟨_, _, n4, _, _, _, l7, l10⟩ := vS_yes hv
  unfold LpOk at l7 l10
  have HN := Lib.hid n4
  have d1 : decide ((f : Int) < 0) = false := decide_eq_false (by omega)
  have d2 : decide ((t : Int) < f) = false := decide_eq_false (by omega)
  have d3 : decide ((n : Int) < t) = false := decide_eq_false (by omega)
  have i0 : (0 : Int) ≤ (f : Int) := by omega
  have i1 : (0 : Int) ≤ (t : Int) := by omega
  have i2 : (f : Int) ≤ (t : Int) := by omega
  have i3 : (t : Int) ≤ (c0 : Int) := by omega
  have C7 := Lib.hid fun (W : World) => cropped_any s.a7 s.a8 s.a9 f t (by omega) (by omega) (by omega) W
  have C10 := Lib.hid fun (W : World) => cropped_any s.a10 s.a11 s.a12 f t (by omega) (by omega) (by omega) W
  subst hA0
  have hc1 : (c0 = f) = True := eq_true hcf
  have hc2 : (f = c0) = True := eq_true hcf.symm
  have e0 : t - f = 0 := by omega
  have CL := Lib.hid fun (AA : Option Addr) (cc : Nat) (W : World) => (show Calls Try.prog 76 #[.slice AA (t - f) cc] W fun e w' => ∃ v, e = .returned v ∧ w'.ownsRow W.heap.size 3 1 v (t - f) (rw_ (fun i => xs (f + i)) (t - f)) ∧ Below W.heap.size W w' from by rw [e0]; exact clone_any AA 0 cc 0 0 _ (by omega) W ⟨fun h => by omega, fun h => by omega, fun i h => by omega⟩)
  clear e0
  clear hft hcf
  clear hA hv l7 l10
  go_enter Try.func32, Try.ntmps32
  go_upto_region 5 with (first
    | (refine wpList_load_row rfl 24 (.tmp 3) rfl (w.heap.size) rfl 24 _ (0, 0) _ P0.out Try.underlying24 rfl (S.i24 _ _ _ _) ?_)
    | (go_at_call 15; (with_reducible refine (VC.out _ D0.out).mono ?_); rintro e w1 ⟨rfl, hb1⟩; have P1 := Lib.hid (bkBelow P0.out hb1); have H1 := Lib.hid (bkBelow H0.out hb1); have p1 := (bkCell P1.out 1).trans (show _ = some (Value.slice (some ad) n c0) from rfl); have D1 := Lib.hid (D0.out.later hb1); have B1 := bdT B0 B0.size hb1))
  have HP := Lib.hid (bkLt P1.out)
  have HH := Lib.hid (bkLt H1.out)
  have p1 := (bkCell P1.out 1).trans (show _ = some (Value.slice (some ad) n c0) from rfl)
  go_upto_region 6 with (go_at_call 76; (with_reducible refine (CL.out _ _ _).mono ?_); rintro e w2 ⟨v, rfl, hO, hb2⟩; obtain ⟨A', c', g', rfl, _, _⟩ := ownDataV hO; have P2 := Lib.hid (bkBelow P1.out hb2); have H2 := Lib.hid (bkBelow H1.out hb2); have B2 := bdT B1 B1.size hb2; have O2 := Lib.hid hO; have q1 := (bkCell P2.out 1).trans (show _ = some (Value.slice (some ad) n c0) from rfl); have f1 := bkFrozen P2.out 1; clear hO hb2)
  have P3 := Lib.hid (bkPut P2.out 1 (.slice A' (t - f) c') (S.set1 s (some ad) A' n c0 (t - f) c'))
  have H3 := Lib.hid (bkFar H2.out (p := ⟨w.heap.size, 1, none⟩) (by simp) (.slice A' (t - f) c'))
  have O3 := Lib.hid (ownVC O2.out (p := ⟨w.heap.size, 1, none⟩) HP.out (.slice A' (t - f) c'))
  have B3 := B2.setCell (p := ⟨w.heap.size, 1, none⟩) (Nat.le_refl _) (.slice A' (t - f) c')
  clear p1 q1 f1 P2 H2 O2 B2
  generalize w2.setCell ⟨w.heap.size, 1, none⟩ (.slice A' (t - f) c') = w3 at *
  have p7 := (bkCell P3.out 7).trans (show _ = some (iv s.a7) from rfl)
  have p8 := (bkCell P3.out 8).trans (show _ = some (iv s.a8) from rfl)
  have p9 := (bkCell P3.out 9).trans (show _ = some (iv s.a9) from rfl)
  have f7 := bkFrozen P3.out 7
  have f8 := bkFrozen P3.out 8
  have f9 := bkFrozen P3.out 9
  go_upto_region 7 with (go_at_call 77; (with_reducible refine (C7.out _).mono ?_); rintro e w9 ⟨rfl, rfl⟩)
  have P4 := Lib.hid (bkPut (bkPut (bkPut P3.out 7 (iv (cropK s.a7 s.a8 s.a9 f t).1) (show _ = S.cs ⟨s.nm, s.a2, s.a3, s.a4, s.a5, s.a6, (cropK s.a7 s.a8 s.a9 f t).1, s.a8, s.a9, s.a10, s.a11, s.a12⟩ A' (t - f) c' from rfl)) 8 (iv (cropK s.a7 s.a8 s.a9 f t).2.1) (show _ = S.cs ⟨s.nm, s.a2, s.a3, s.a4, s.a5, s.a6, (cropK s.a7 s.a8 s.a9 f t).1, (cropK s.a7 s.a8 s.a9 f t).2.1, s.a9, s.a10, s.a11, s.a12⟩ A' (t - f) c' from rfl)) 9 (iv (cropK s.a7 s.a8 s.a9 f t).2.2) (show _ = S.cs ⟨s.nm, s.a2, s.a3, s.a4, s.a5, s.a6, (cropK s.a7 s.a8 s.a9 f t).1, (cropK s.a7 s.a8 s.a9 f t).2.1, (cropK s.a7 s.a8 s.a9 f t).2.2, s.a10, s.a11, s.a12⟩ A' (t - f) c' from rfl))
  have H4 := Lib.hid (bkFar (bkFar (bkFar H3.out (p := ⟨w.heap.size, 7, none⟩) (by simp) (iv (cropK s.a7 s.a8 s.a9 f t).1)) (p := ⟨w.heap.size, 8, none⟩) (by simp) (iv (cropK s.a7 s.a8 s.a9 f t).2.1)) (p := ⟨w.heap.size, 9, none⟩) (by simp) (iv (cropK s.a7 s.a8 s.a9 f t).2.2))
  have O4 := Lib.hid (ownVC (ownVC (ownVC O3.out (p := ⟨w.heap.size, 7, none⟩) HP.out (iv (cropK s.a7 s.a8 s.a9 f t).1)) (p := ⟨w.heap.size, 8, none⟩) HP.out (iv (cropK s.a7 s.a8 s.a9 f t).2.1)) (p := ⟨w.heap.size, 9, none⟩) HP.out (iv (cropK s.a7 s.a8 s.a9 f t).2.2))
  have B4 := (((B3.setCell (p := ⟨w.heap.size, 7, none⟩) (Nat.le_refl _) (iv (cropK s.a7 s.a8 s.a9 f t).1)).setCell (p := ⟨w.heap.size, 8, none⟩) (Nat.le_refl _) (iv (cropK s.a7 s.a8 s.a9 f t).2.1)).setCell (p := ⟨w.heap.size, 9, none⟩) (Nat.le_refl _) (iv (cropK s.a7 s.a8 s.a9 f t).2.2))
  clear p7 f7 p8 f8 p9 f9 P3 H3 O3 B3
  have p10 := (bkCell P4.out 10).trans (show _ = some (iv s.a10) from rfl)
  have p11 := (bkCell P4.out 11).trans (show _ = some (iv s.a11) from rfl)
  have p12 := (bkCell P4.out 12).trans (show _ = some (iv s.a12) from rfl)
  have f10 := bkFrozen P4.out 10
  have f11 := bkFrozen P4.out 11
  have f12 := bkFrozen P4.out 12
  go_upto_region 8 with (go_at_call 77; (with_reducible refine (C10.out _).mono ?_); rintro e w9 ⟨rfl, rfl⟩)
  have P5 := Lib.hid (bkPut (bkPut (bkPut P4.out 10 (iv (cropK s.a10 s.a11 s.a12 f t).1) (show _ = S.cs ⟨s.nm, s.a2, s.a3, s.a4, s.a5, s.a6, (cropK s.a7 s.a8 s.a9 f t).1, (cropK s.a7 s.a8 s.a9 f t).2.1, (cropK s.a7 s.a8 s.a9 f t).2.2, (cropK s.a10 s.a11 s.a12 f t).1, s.a11, s.a12⟩ A' (t - f) c' from rfl)) 11 (iv (cropK s.a10 s.a11 s.a12 f t).2.1) (show _ = S.cs ⟨s.nm, s.a2, s.a3, s.a4, s.a5, s.a6, (cropK s.a7 s.a8 s.a9 f t).1, (cropK s.a7 s.a8 s.a9 f t).2.1, (cropK s.a7 s.a8 s.a9 f t).2.2, (cropK s.a10 s.a11 s.a12 f t).1, (cropK s.a10 s.a11 s.a12 f t).2.1, s.a12⟩ A' (t - f) c' from rfl)) 12 (iv (cropK s.a10 s.a11 s.a12 f t).2.2) (show _ = S.cs ⟨s.nm, s.a2, s.a3, s.a4, s.a5, s.a6, (cropK s.a7 s.a8 s.a9 f t).1, (cropK s.a7 s.a8 s.a9 f t).2.1, (cropK s.a7 s.a8 s.a9 f t).2.2, (cropK s.a10 s.a11 s.a12 f t).1, (cropK s.a10 s.a11 s.a12 f t).2.1, (cropK s.a10 s.a11 s.a12 f t).2.2⟩ A' (t - f) c' from rfl))
  have H5 := Lib.hid (bkFar (bkFar (bkFar H4.out (p := ⟨w.heap.size, 10, none⟩) (by simp) (iv (cropK s.a10 s.a11 s.a12 f t).1)) (p := ⟨w.heap.size, 11, none⟩) (by simp) (iv (cropK s.a10 s.a11 s.a12 f t).2.1)) (p := ⟨w.heap.size, 12, none⟩) (by simp) (iv (cropK s.a10 s.a11 s.a12 f t).2.2))
  have O5 := Lib.hid (ownVC (ownVC (ownVC O4.out (p := ⟨w.heap.size, 10, none⟩) HP.out (iv (cropK s.a10 s.a11 s.a12 f t).1)) (p := ⟨w.heap.size, 11, none⟩) HP.out (iv (cropK s.a10 s.a11 s.a12 f t).2.1)) (p := ⟨w.heap.size, 12, none⟩) HP.out (iv (cropK s.a10 s.a11 s.a12 f t).2.2))
  have B5 := (((B4.setCell (p := ⟨w.heap.size, 10, none⟩) (Nat.le_refl _) (iv (cropK s.a10 s.a11 s.a12 f t).1)).setCell (p := ⟨w.heap.size, 11, none⟩) (Nat.le_refl _) (iv (cropK s.a10 s.a11 s.a12 f t).2.1)).setCell (p := ⟨w.heap.size, 12, none⟩) (Nat.le_refl _) (iv (cropK s.a10 s.a11 s.a12 f t).2.2))
  clear p10 f10 p11 f11 p12 f12 P4 H4 O4 B4
  have hT : cropS s f t = ⟨s.nm, s.a2, s.a3, s.a4, s.a5, s.a6, (cropK s.a7 s.a8 s.a9 f t).1, (cropK s.a7 s.a8 s.a9 f t).2.1, (cropK s.a7 s.a8 s.a9 f t).2.2, (cropK s.a10 s.a11 s.a12 f t).1, (cropK s.a10 s.a11 s.a12 f t).2.1, (cropK s.a10 s.a11 s.a12 f t).2.2⟩ := rfl
  go_wp2_with (first
    | (refine wpList_load_row rfl 24 (.tmp 3) rfl (w.heap.size) rfl 24 _ (0, 0) _ P5.out Try.underlying24 rfl (S.i24 _ _ _ _) ?_)
    | (refine wpList_store_row rfl 24 (.tmp 6) (.tmp 66) rfl (w.heap.size + 1) (S.cs ⟨s.nm, s.a2, s.a3, s.a4, s.a5, s.a6, (cropK s.a7 s.a8 s.a9 f t).1, (cropK s.a7 s.a8 s.a9 f t).2.1, (cropK s.a7 s.a8 s.a9 f t).2.2, (cropK s.a10 s.a11 s.a12 f t).1, (cropK s.a10 s.a11 s.a12 f t).2.1, (cropK s.a10 s.a11 s.a12 f t).2.2⟩ A' (t - f) c') rfl rfl 24 _ H5.out (S.i24 _ _ _ _) (S.sz S.zero _ none _ 0 0 _ _) (S.one _ _ _ _) ?_))
  refine bodyPost_ret (res_ct rfl _ _ (w.heap.size + 1) 24 _ (0, 0) _ rfl (setRow_heap _ _ _ _ _ _ H5.out) Try.underlying24 rfl (S.i24 _ _ _ _)) rfl ⟨A', c', rfl, ownBase2 (ownVR O5.out HH.out _) (Nat.le_of_lt HP.out), below_setRow B5 (by omega) _⟩
theorem scrop_ok (s : S) (A : Option Addr) (n c0 b o : Nat) (xs : Nat → Int) (f t : Nat) (hv : vS s n xs = true) (hft : f ≤ t) (htn : t ≤ n) (hn : n ≤ 9223372036854775807) (hc0 : n ≤ c0) (w : World) (hA : DataAt w A n b o xs) : Gives 32 #[.agg (s.cs A n c0), iv f, iv t] w (cropS s f t) (t - f) (fun i => xs (f + i)) 0 := by
  rcases Nat.lt_or_ge f t with h | h
  · exact scrop_some s A n c0 b o xs f t hv h htn hn hc0 w hA
  · have e : f = t := by omega
    rcases Nat.lt_or_ge f c0 with h2 | h2
    · cases hA0 : A with
      | none => rw [← hA0]; exact scrop_none0 s A n c0 b o xs f t hv e h2 hA0 htn hn hc0 w hA
      | some ad => rw [← hA0]; exact scrop_some0 s A n c0 b o xs f t hv ad e h2 hA0 htn hn hc0 w hA
    · cases hA0 : A with
      | none => rw [← hA0]; exact scrop_none1 s A n c0 b o xs f t hv e (by omega) hA0 htn hn hc0 w hA
      | some ad => rw [← hA0]; exact scrop_some1 s A n c0 b o xs f t hv ad e (by omega) hA0 htn hn hc0 w hA
end Go.Proofs.Ytnmoiolddfboiaa.SX

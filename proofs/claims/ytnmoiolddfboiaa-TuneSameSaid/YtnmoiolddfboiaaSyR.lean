/- A sample at another rate, by the reference. -/
import Derived.Test.YtnmoiolddfboiaaSyQ
import Derived.Test.YtnmoiolddfboiaaSxQ
namespace Go.Proofs.Ytnmoiolddfboiaa.SX
open Go.RowKit Go.Proofs.YtnmoiolddfboiaaW.PrintLast Go.Proofs.Ytnmoiolddfboiaa.TX Go.Proofs.Ytnmoiolddfboiaa.Cu
set_option linter.unusedVariables false
set_option linter.unusedSimpArgs false
set_option maxHeartbeats 4000000 in
set_option maxRecDepth 100000 in
theorem rate_any (q : Int) (w : World) : Calls Try.prog 93 #[iv q, iv 1, iv 65535] w fun e w' => e = .returned (iv (rateR q)) ∧ w = w' := by
  go_enter Try.func93, Try.ntmps93
  go_wp2
  go_ret
  refine ⟨?_, rfl⟩
  show Ending.returned (iv (max 1 (min 65535 q))) = _
  rw [rate_mm]
def lpR (k a b : Int) : Int × Int × Int := if k = 0 ∨ b ≤ a then (0, 0, 0) else (k, a, b)
theorem sclK_lpR (k a b num den : Int) : sclK k a b num den = lpR k (a * num / den) (b * num / den) := rfl
theorem lp_any (k a b : Int) (w : World) : Calls Try.prog 94 #[iv k, iv a, iv b] w fun e w' => e = .returned (.tuple #[iv (lpR k a b).1, iv (lpR k a b).2.1, iv (lpR k a b).2.2]) ∧ w = w' := by
  by_cases h0 : k = 0
  · have e1 : (k == 0) = true := by simp [h0]
    rw [show lpR k a b = (0, 0, 0) from if_pos (.inl h0)]
    clear h0
    go_enter Try.func94, Try.ntmps94
    go_wp2
    go_ret3
    exact ⟨rfl, rfl⟩
  · have e1 : (k == 0) = false := by simp [h0]
    by_cases h1 : b ≤ a
    · have d1 : decide (b ≤ a) = true := decide_eq_true h1
      rw [show lpR k a b = (0, 0, 0) from if_pos (.inr h1)]
      clear h0 h1
      go_enter Try.func94, Try.ntmps94
      go_wp2
      go_ret3
      exact ⟨rfl, rfl⟩
    · have d1 : decide (b ≤ a) = false := decide_eq_false h1
      rw [show lpR k a b = (k, a, b) from if_neg (by omega)]
      clear h0 h1
      go_enter Try.func94, Try.ntmps94
      go_wp2
      go_ret3
      exact ⟨rfl, rfl⟩
/-- a sample without loops -/
def bareS (s : S) : S := ⟨s.nm, s.a2, s.a3, s.a4, s.a5, s.a6, 0, 0, 0, 0, 0, 0⟩
theorem bare_valid {s : S} {n : Nat} {xs : Nat → Int} (h : vS s n xs = true) : vS (bareS s) n xs = true := by
  obtain ⟨h1, h2, h3, h4, h5, h6, h7, h8⟩ := vS_yes h
  exact decide_eq_true ⟨h1, h2, h3, h4, h5, h6, .inl ⟨rfl, rfl, rfl⟩, .inl ⟨rfl, rfl, rfl⟩⟩
theorem bare_snd (s : S) (n : Nat) (xs : Nat → Int) (num den : Int) (K i : Nat) : sndM (bareS s) n xs (rsC num den i) false K = rsV s n xs num den K i := rfl
/-- what a work of the reference gives: a sample with frames in some row, and an error's number -/
def GivesD (F : FuncId) (args : Array Value) (w : World) (t : S) (m : Nat) (ys : Nat → Int) (er : Int) : Prop :=
  Calls Try.prog F args w fun e w' => ∃ A' c' b' o', e = .returned (.tuple #[.agg (t.cs A' m c'), iv er]) ∧ DataAt w' A' m b' o' ys ∧ Below w.heap.size w w'
theorem gives_D {F : FuncId} {args : Array Value} {w : World} {t : S} {m : Nat} {ys : Nat → Int} {er : Int} (h : Gives F args w t m ys er) : GivesD F args w t m ys er := by
  unfold Gives at h
  unfold GivesD
  refine h.mono ?_
  rintro e w' ⟨A', c', h1, h2, h3⟩
  obtain ⟨A2, c2, g, e2, hd, _⟩ := ownDataV h2
  simp only [Value.slice.injEq, true_and] at e2
  obtain ⟨rfl, rfl⟩ := e2
  exact ⟨A', c', g, 0, h1, hd, h3⟩
set_option maxHeartbeats 16000000 in
set_option maxRecDepth 100000 in
theorem rres5_bad (s : S) (A : Option Addr) (n c0 b o : Nat) (xs : Nat → Int) (num den kind : Int) (hv : vS s n xs = false) (hn : n ≤ 9223372036854775807) (hc0 : n ≤ c0) (w : World) (hA : DataAt w A n b o xs) : Gives 48 #[.agg (s.cs A n c0), iv num, iv den, iv kind] w S.zero 0 (fun _ => 0) 1 := by
  unfold Gives
  have H0 := Lib.hid (show ((w.alloc (Obj.cells (s.cs A n c0) 24)).alloc (Obj.cells #[Value.string ⟨#[]⟩, Value.slice none 0 0, iv 0, iv 0, iv 0, iv 0, iv 0, iv 0, iv 0, iv 0, iv 0, iv 0, iv 0] 24)).heap[w.heap.size + 1]? = some (.cells (S.zero.cs none 0 0) 24 (0, 0)) from heap_alloc2_new w (Obj.cells (s.cs A n c0) 24) (Obj.cells #[Value.string ⟨#[]⟩, Value.slice none 0 0, iv 0, iv 0, iv 0, iv 0, iv 0, iv 0, iv 0, iv 0, iv 0, iv 0, iv 0] 24))
  have B0 : Below w.heap.size w ((w.alloc (Obj.cells (s.cs A n c0) 24)).alloc (Obj.cells #[Value.string ⟨#[]⟩, Value.slice none 0 0, iv 0, iv 0, iv 0, iv 0, iv 0, iv 0, iv 0, iv 0, iv 0, iv 0, iv 0] 24)) := ((Below.refl _ _).alloc (Nat.le_refl _) _).alloc (by simp) _
  have P0 := Lib.hid (show ((w.alloc (Obj.cells (s.cs A n c0) 24)).alloc (Obj.cells #[Value.string ⟨#[]⟩, Value.slice none 0 0, iv 0, iv 0, iv 0, iv 0, iv 0, iv 0, iv 0, iv 0, iv 0, iv 0, iv 0] 24)).heap[w.heap.size]? = some (.cells (s.cs A n c0) 24 (0, 0)) from heap_alloc2_old w _ _)
  have D0 := Lib.hid (hA.later B0)
  have VC := Lib.hid (show ∀ (W : World), DataAt W A n b o xs → Calls Try.prog 25 #[.agg (s.cs A n c0)] W fun e w' => e = .returned (.bool false) ∧ Below W.heap.size W w' from fun W h => by have := rvalid_any s A n c0 b o xs hn hc0 W h; rwa [hv] at this)
  clear hA hv
  go_enter Try.func48, Try.ntmps48
  go_wp2_with (first
    | (refine wpList_load_row rfl 24 (.tmp 4) rfl (w.heap.size) rfl 24 _ (0, 0) _ P0.out Try.underlying24 rfl (S.i24 _ _ _ _) ?_)
    | (go_at_call 25; (with_reducible refine (VC.out _ D0.out).mono ?_); rintro e w1 ⟨rfl, hb1⟩; have P1 := Lib.hid (bkBelow P0.out hb1); have H1 := Lib.hid (bkBelow H0.out hb1); have D1 := Lib.hid (D0.out.later hb1); have B1 := bdT B0 B0.size hb1)
    | (refine wpBuild0 rfl 24 rfl (S.zero.cs none 0 0) built24 ?_)
    | (refine wpList_store_row rfl 24 (.tmp 8) (.tmp 20) rfl (w.heap.size + 1) (S.zero.cs none 0 0) rfl rfl 24 _ H1.out (S.i24 _ _ _ _) (S.sz S.zero S.zero none none 0 0 0 0) (S.one _ _ _ _) ?_))
  refine bodyPost_ret (res_ct rfl _ _ (w.heap.size + 1) 24 _ (0, 0) _ rfl (setRow_heap _ _ _ _ _ _ H1.out) Try.underlying24 rfl (S.i24 _ _ _ _)) rfl ⟨none, 0, rfl, own0, below_setRow B1 (by omega) _⟩
set_option maxHeartbeats 16000000 in
set_option maxRecDepth 100000 in
theorem rres5_kind (s : S) (A : Option Addr) (n c0 b o : Nat) (xs : Nat → Int) (num den kind : Int) (hv : vS s n xs = true) (hk : kind < 0 ∨ 4 < kind) (hn : n ≤ 9223372036854775807) (hc0 : n ≤ c0) (w : World) (hA : DataAt w A n b o xs) : Gives 48 #[.agg (s.cs A n c0), iv num, iv den, iv kind] w S.zero 0 (fun _ => 0) 6 := by
  unfold Gives
  have H0 := Lib.hid (show ((w.alloc (Obj.cells (s.cs A n c0) 24)).alloc (Obj.cells #[Value.string ⟨#[]⟩, Value.slice none 0 0, iv 0, iv 0, iv 0, iv 0, iv 0, iv 0, iv 0, iv 0, iv 0, iv 0, iv 0] 24)).heap[w.heap.size + 1]? = some (.cells (S.zero.cs none 0 0) 24 (0, 0)) from heap_alloc2_new w (Obj.cells (s.cs A n c0) 24) (Obj.cells #[Value.string ⟨#[]⟩, Value.slice none 0 0, iv 0, iv 0, iv 0, iv 0, iv 0, iv 0, iv 0, iv 0, iv 0, iv 0, iv 0] 24))
  have B0 : Below w.heap.size w ((w.alloc (Obj.cells (s.cs A n c0) 24)).alloc (Obj.cells #[Value.string ⟨#[]⟩, Value.slice none 0 0, iv 0, iv 0, iv 0, iv 0, iv 0, iv 0, iv 0, iv 0, iv 0, iv 0, iv 0] 24)) := ((Below.refl _ _).alloc (Nat.le_refl _) _).alloc (by simp) _
  have P0 := Lib.hid (show ((w.alloc (Obj.cells (s.cs A n c0) 24)).alloc (Obj.cells #[Value.string ⟨#[]⟩, Value.slice none 0 0, iv 0, iv 0, iv 0, iv 0, iv 0, iv 0, iv 0, iv 0, iv 0, iv 0, iv 0] 24)).heap[w.heap.size]? = some (.cells (s.cs A n c0) 24 (0, 0)) from heap_alloc2_old w _ _)
  have D0 := Lib.hid (hA.later B0)
  have VC := Lib.hid (show ∀ (W : World), DataAt W A n b o xs → Calls Try.prog 25 #[.agg (s.cs A n c0)] W fun e w' => e = .returned (.bool true) ∧ Below W.heap.size W w' from fun W h => by have := rvalid_any s A n c0 b o xs hn hc0 W h; rwa [hv] at this)
  have I1 := Lib.hid fun (W : World) => rin_no kind 0 4 W (by omega)
  clear hk
  clear hA hv
  go_enter Try.func48, Try.ntmps48
  go_wp2_with (first
    | (refine wpList_load_row rfl 24 (.tmp 4) rfl (w.heap.size) rfl 24 _ (0, 0) _ P0.out Try.underlying24 rfl (S.i24 _ _ _ _) ?_)
    | (go_at_call 25; (with_reducible refine (VC.out _ D0.out).mono ?_); rintro e w1 ⟨rfl, hb1⟩; have P1 := Lib.hid (bkBelow P0.out hb1); have H1 := Lib.hid (bkBelow H0.out hb1); have p1 := (bkCell P1.out 1).trans (show _ = some (Value.slice A n c0) from rfl); have D1 := Lib.hid (D0.out.later hb1); have B1 := bdT B0 B0.size hb1)
    | (go_at_call 90; (with_reducible refine (I1.out _).mono ?_); rintro e w2 ⟨rfl, rfl⟩)
    | (refine wpBuild0 rfl 24 rfl (S.zero.cs none 0 0) built24 ?_)
    | (refine wpList_store_row rfl 24 (.tmp 8) (.tmp 24) rfl (w.heap.size + 1) (S.zero.cs none 0 0) rfl rfl 24 _ H1.out (S.i24 _ _ _ _) (S.sz S.zero S.zero none none 0 0 0 0) (S.one _ _ _ _) ?_))
  refine bodyPost_ret (res_ct rfl _ _ (w.heap.size + 1) 24 _ (0, 0) _ rfl (setRow_heap _ _ _ _ _ _ H1.out) Try.underlying24 rfl (S.i24 _ _ _ _)) rfl ⟨none, 0, rfl, own0, below_setRow B1 (by omega) _⟩
set_option maxHeartbeats 16000000 in
set_option maxRecDepth 100000 in
theorem rres5_num (s : S) (A : Option Addr) (n c0 b o : Nat) (xs : Nat → Int) (num den kind : Int) (hv : vS s n xs = true) (hk : 0 ≤ kind ∧ kind ≤ 4) (hr : num < 1 ∨ 10000 < num) (hn : n ≤ 9223372036854775807) (hc0 : n ≤ c0) (w : World) (hA : DataAt w A n b o xs) : Gives 48 #[.agg (s.cs A n c0), iv num, iv den, iv kind] w S.zero 0 (fun _ => 0) 5 := by
  unfold Gives
  have H0 := Lib.hid (show ((w.alloc (Obj.cells (s.cs A n c0) 24)).alloc (Obj.cells #[Value.string ⟨#[]⟩, Value.slice none 0 0, iv 0, iv 0, iv 0, iv 0, iv 0, iv 0, iv 0, iv 0, iv 0, iv 0, iv 0] 24)).heap[w.heap.size + 1]? = some (.cells (S.zero.cs none 0 0) 24 (0, 0)) from heap_alloc2_new w (Obj.cells (s.cs A n c0) 24) (Obj.cells #[Value.string ⟨#[]⟩, Value.slice none 0 0, iv 0, iv 0, iv 0, iv 0, iv 0, iv 0, iv 0, iv 0, iv 0, iv 0, iv 0] 24))
  have B0 : Below w.heap.size w ((w.alloc (Obj.cells (s.cs A n c0) 24)).alloc (Obj.cells #[Value.string ⟨#[]⟩, Value.slice none 0 0, iv 0, iv 0, iv 0, iv 0, iv 0, iv 0, iv 0, iv 0, iv 0, iv 0, iv 0] 24)) := ((Below.refl _ _).alloc (Nat.le_refl _) _).alloc (by simp) _
  have P0 := Lib.hid (show ((w.alloc (Obj.cells (s.cs A n c0) 24)).alloc (Obj.cells #[Value.string ⟨#[]⟩, Value.slice none 0 0, iv 0, iv 0, iv 0, iv 0, iv 0, iv 0, iv 0, iv 0, iv 0, iv 0, iv 0] 24)).heap[w.heap.size]? = some (.cells (s.cs A n c0) 24 (0, 0)) from heap_alloc2_old w _ _)
  have D0 := Lib.hid (hA.later B0)
  have VC := Lib.hid (show ∀ (W : World), DataAt W A n b o xs → Calls Try.prog 25 #[.agg (s.cs A n c0)] W fun e w' => e = .returned (.bool true) ∧ Below W.heap.size W w' from fun W h => by have := rvalid_any s A n c0 b o xs hn hc0 W h; rwa [hv] at this)
  have I1 := Lib.hid fun (W : World) => rin_yes kind 0 4 W (by omega) (by omega)
  have I2 := Lib.hid fun (W : World) => rin_no num 1 10000 W (by omega)
  clear hk hr
  clear hA hv
  go_enter Try.func48, Try.ntmps48
  go_wp2_with (first
    | (refine wpList_load_row rfl 24 (.tmp 4) rfl (w.heap.size) rfl 24 _ (0, 0) _ P0.out Try.underlying24 rfl (S.i24 _ _ _ _) ?_)
    | (go_at_call 25; (with_reducible refine (VC.out _ D0.out).mono ?_); rintro e w1 ⟨rfl, hb1⟩; have P1 := Lib.hid (bkBelow P0.out hb1); have H1 := Lib.hid (bkBelow H0.out hb1); have p1 := (bkCell P1.out 1).trans (show _ = some (Value.slice A n c0) from rfl); have D1 := Lib.hid (D0.out.later hb1); have B1 := bdT B0 B0.size hb1)
    | (go_at_call 90; (with_reducible refine (I1.out _).mono ?_); rintro e w2 ⟨rfl, rfl⟩)
    | (go_at_call 90; (with_reducible refine (I2.out _).mono ?_); rintro e w2 ⟨rfl, rfl⟩)
    | (refine wpBuild0 rfl 24 rfl (S.zero.cs none 0 0) built24 ?_)
    | (refine wpList_store_row rfl 24 (.tmp 8) (.tmp 33) rfl (w.heap.size + 1) (S.zero.cs none 0 0) rfl rfl 24 _ H1.out (S.i24 _ _ _ _) (S.sz S.zero S.zero none none 0 0 0 0) (S.one _ _ _ _) ?_))
  refine bodyPost_ret (res_ct rfl _ _ (w.heap.size + 1) 24 _ (0, 0) _ rfl (setRow_heap _ _ _ _ _ _ H1.out) Try.underlying24 rfl (S.i24 _ _ _ _)) rfl ⟨none, 0, rfl, own0, below_setRow B1 (by omega) _⟩
set_option maxHeartbeats 16000000 in
set_option maxRecDepth 100000 in
theorem rres5_den (s : S) (A : Option Addr) (n c0 b o : Nat) (xs : Nat → Int) (num den kind : Int) (hv : vS s n xs = true) (hk : 0 ≤ kind ∧ kind ≤ 4) (hr : 1 ≤ num ∧ num ≤ 10000) (hr2 : den < 1 ∨ 10000 < den) (hn : n ≤ 9223372036854775807) (hc0 : n ≤ c0) (w : World) (hA : DataAt w A n b o xs) : Gives 48 #[.agg (s.cs A n c0), iv num, iv den, iv kind] w S.zero 0 (fun _ => 0) 5 := by
  unfold Gives
  have H0 := Lib.hid (show ((w.alloc (Obj.cells (s.cs A n c0) 24)).alloc (Obj.cells #[Value.string ⟨#[]⟩, Value.slice none 0 0, iv 0, iv 0, iv 0, iv 0, iv 0, iv 0, iv 0, iv 0, iv 0, iv 0, iv 0] 24)).heap[w.heap.size + 1]? = some (.cells (S.zero.cs none 0 0) 24 (0, 0)) from heap_alloc2_new w (Obj.cells (s.cs A n c0) 24) (Obj.cells #[Value.string ⟨#[]⟩, Value.slice none 0 0, iv 0, iv 0, iv 0, iv 0, iv 0, iv 0, iv 0, iv 0, iv 0, iv 0, iv 0] 24))
  have B0 : Below w.heap.size w ((w.alloc (Obj.cells (s.cs A n c0) 24)).alloc (Obj.cells #[Value.string ⟨#[]⟩, Value.slice none 0 0, iv 0, iv 0, iv 0, iv 0, iv 0, iv 0, iv 0, iv 0, iv 0, iv 0, iv 0] 24)) := ((Below.refl _ _).alloc (Nat.le_refl _) _).alloc (by simp) _
  have P0 := Lib.hid (show ((w.alloc (Obj.cells (s.cs A n c0) 24)).alloc (Obj.cells #[Value.string ⟨#[]⟩, Value.slice none 0 0, iv 0, iv 0, iv 0, iv 0, iv 0, iv 0, iv 0, iv 0, iv 0, iv 0, iv 0] 24)).heap[w.heap.size]? = some (.cells (s.cs A n c0) 24 (0, 0)) from heap_alloc2_old w _ _)
  have D0 := Lib.hid (hA.later B0)
  have VC := Lib.hid (show ∀ (W : World), DataAt W A n b o xs → Calls Try.prog 25 #[.agg (s.cs A n c0)] W fun e w' => e = .returned (.bool true) ∧ Below W.heap.size W w' from fun W h => by have := rvalid_any s A n c0 b o xs hn hc0 W h; rwa [hv] at this)
  have I1 := Lib.hid fun (W : World) => rin_yes kind 0 4 W (by omega) (by omega)
  have I2 := Lib.hid fun (W : World) => rin_yes num 1 10000 W (by omega) (by omega)
  have I3 := Lib.hid fun (W : World) => rin_no den 1 10000 W (by omega)
  clear hk hr hr2
  clear hA hv
  go_enter Try.func48, Try.ntmps48
  go_wp2_with (first
    | (refine wpList_load_row rfl 24 (.tmp 4) rfl (w.heap.size) rfl 24 _ (0, 0) _ P0.out Try.underlying24 rfl (S.i24 _ _ _ _) ?_)
    | (go_at_call 25; (with_reducible refine (VC.out _ D0.out).mono ?_); rintro e w1 ⟨rfl, hb1⟩; have P1 := Lib.hid (bkBelow P0.out hb1); have H1 := Lib.hid (bkBelow H0.out hb1); have p1 := (bkCell P1.out 1).trans (show _ = some (Value.slice A n c0) from rfl); have D1 := Lib.hid (D0.out.later hb1); have B1 := bdT B0 B0.size hb1)
    | (go_at_call 90; (with_reducible refine (I1.out _).mono ?_); rintro e w2 ⟨rfl, rfl⟩)
    | (go_at_call 90; (with_reducible refine (I2.out _).mono ?_); rintro e w2 ⟨rfl, rfl⟩)
    | (go_at_call 90; (with_reducible refine (I3.out _).mono ?_); rintro e w2 ⟨rfl, rfl⟩)
    | (refine wpBuild0 rfl 24 rfl (S.zero.cs none 0 0) built24 ?_)
    | (refine wpList_store_row rfl 24 (.tmp 8) (.tmp 33) rfl (w.heap.size + 1) (S.zero.cs none 0 0) rfl rfl 24 _ H1.out (S.i24 _ _ _ _) (S.sz S.zero S.zero none none 0 0 0 0) (S.one _ _ _ _) ?_))
  refine bodyPost_ret (res_ct rfl _ _ (w.heap.size + 1) 24 _ (0, 0) _ rfl (setRow_heap _ _ _ _ _ _ H1.out) Try.underlying24 rfl (S.i24 _ _ _ _)) rfl ⟨none, 0, rfl, own0, below_setRow B1 (by omega) _⟩
set_option maxHeartbeats 16000000 in
set_option maxRecDepth 100000 in
theorem rres5_long (s : S) (A : Option Addr) (n c0 b o : Nat) (xs : Nat → Int) (num den kind : Int) (hv : vS s n xs = true) (hk : 0 ≤ kind ∧ kind ≤ 4) (hr : 1 ≤ num ∧ num ≤ 10000) (hr2 : 1 ≤ den ∧ den ≤ 10000) (q : Int) (hm : (n : Int) * num / den = q) (hq : 4096 < q) (hn : n ≤ 9223372036854775807) (hc0 : n ≤ c0) (w : World) (hA : DataAt w A n b o xs) : Gives 48 #[.agg (s.cs A n c0), iv num, iv den, iv kind] w S.zero 0 (fun _ => 0) 4 := by
  unfold Gives
  have H0 := Lib.hid (show ((w.alloc (Obj.cells (s.cs A n c0) 24)).alloc (Obj.cells #[Value.string ⟨#[]⟩, Value.slice none 0 0, iv 0, iv 0, iv 0, iv 0, iv 0, iv 0, iv 0, iv 0, iv 0, iv 0, iv 0] 24)).heap[w.heap.size + 1]? = some (.cells (S.zero.cs none 0 0) 24 (0, 0)) from heap_alloc2_new w (Obj.cells (s.cs A n c0) 24) (Obj.cells #[Value.string ⟨#[]⟩, Value.slice none 0 0, iv 0, iv 0, iv 0, iv 0, iv 0, iv 0, iv 0, iv 0, iv 0, iv 0, iv 0] 24))
  have B0 : Below w.heap.size w ((w.alloc (Obj.cells (s.cs A n c0) 24)).alloc (Obj.cells #[Value.string ⟨#[]⟩, Value.slice none 0 0, iv 0, iv 0, iv 0, iv 0, iv 0, iv 0, iv 0, iv 0, iv 0, iv 0, iv 0] 24)) := ((Below.refl _ _).alloc (Nat.le_refl _) _).alloc (by simp) _
  have P0 := Lib.hid (show ((w.alloc (Obj.cells (s.cs A n c0) 24)).alloc (Obj.cells #[Value.string ⟨#[]⟩, Value.slice none 0 0, iv 0, iv 0, iv 0, iv 0, iv 0, iv 0, iv 0, iv 0, iv 0, iv 0, iv 0] 24)).heap[w.heap.size]? = some (.cells (s.cs A n c0) 24 (0, 0)) from heap_alloc2_old w _ _)
  have D0 := Lib.hid (hA.later B0)
  have VC := Lib.hid (show ∀ (W : World), DataAt W A n b o xs → Calls Try.prog 25 #[.agg (s.cs A n c0)] W fun e w' => e = .returned (.bool true) ∧ Below W.heap.size W w' from fun W h => by have := rvalid_any s A n c0 b o xs hn hc0 W h; rwa [hv] at this)
  have I1 := Lib.hid fun (W : World) => rin_yes kind 0 4 W (by omega) (by omega)
  have I2 := Lib.hid fun (W : World) => rin_yes num 1 10000 W (by omega) (by omega)
  have I3 := Lib.hid fun (W : World) => rin_yes den 1 10000 W (by omega) (by omega)
  have hn4 := (vS_yes hv).2.2.1
  have QQ := Lib.hid (quo_facts (a := (n : Int)) (num := num) (den := den) (A := 4096) (by omega) ⟨by omega, by omega⟩ hr hr2)
  rw [hm] at QQ
  have hz : (den = 0) = False := eq_false (by omega)
  have d1 : decide (4096 < q) = true := decide_eq_true hq
  clear hk hr hr2 hm hq hn4
  obtain ⟨f1, f2, f3, _, _⟩ := QQ.out
  clear hA hv
  go_enter Try.func48, Try.ntmps48
  go_wp2_with (first
    | (refine wpList_load_row rfl 24 (.tmp 4) rfl (w.heap.size) rfl 24 _ (0, 0) _ P0.out Try.underlying24 rfl (S.i24 _ _ _ _) ?_)
    | (go_at_call 25; (with_reducible refine (VC.out _ D0.out).mono ?_); rintro e w1 ⟨rfl, hb1⟩; have P1 := Lib.hid (bkBelow P0.out hb1); have H1 := Lib.hid (bkBelow H0.out hb1); have p1 := (bkCell P1.out 1).trans (show _ = some (Value.slice A n c0) from rfl); have D1 := Lib.hid (D0.out.later hb1); have B1 := bdT B0 B0.size hb1)
    | (go_at_call 90; (with_reducible refine (I1.out _).mono ?_); rintro e w2 ⟨rfl, rfl⟩)
    | (go_at_call 90; (with_reducible refine (I2.out _).mono ?_); rintro e w2 ⟨rfl, rfl⟩)
    | (go_at_call 90; (with_reducible refine (I3.out _).mono ?_); rintro e w2 ⟨rfl, rfl⟩)
    | (refine wpBuild0 rfl 24 rfl (S.zero.cs none 0 0) built24 ?_)
    | (refine wpList_store_row rfl 24 (.tmp 8) (.tmp 43) rfl (w.heap.size + 1) (S.zero.cs none 0 0) rfl rfl 24 _ H1.out (S.i24 _ _ _ _) (S.sz S.zero S.zero none none 0 0 0 0) (S.one _ _ _ _) ?_))
  refine bodyPost_ret (res_ct rfl _ _ (w.heap.size + 1) 24 _ (0, 0) _ rfl (setRow_heap _ _ _ _ _ _ H1.out) Try.underlying24 rfl (S.i24 _ _ _ _)) rfl ⟨none, 0, rfl, own0, below_setRow B1 (by omega) _⟩
theorem bkDw {w : World} {g : Nat} {o : Obj} (h : w.heap[g]? = some o) : w.drew.heap[g]? = some o := h
theorem bdR {B : Nat} {w w1 : World} (h : Below B w w1) : Below B w w1.drew := h.drew
set_option maxHeartbeats 32000000 in
set_option maxRecDepth 100000 in
theorem rres5_8 (s : S) (A : Option Addr) (n c0 b o : Nat) (xs : Nat → Int) (num den : Int) (kind m : Nat) (hv : vS s n xs = true) (ha2 : s.a2 = 8) (hk : kind ≤ 4) (hr : 1 ≤ num ∧ num ≤ 10000) (hr2 : 1 ≤ den ∧ den ≤ 10000) (hm : (n : Int) * num / den = m) (hm4 : m ≤ 4096) (hn : n ≤ 9223372036854775807) (hc0 : n ≤ c0) (w : World) (hA : DataAt w A n b o xs) : GivesD 48 #[.agg (s.cs A n c0), iv num, iv den, iv kind] w (rsmS s num den) m (rsmF s n xs num den kind) 0 := by
  unfold GivesD
  have H0 := Lib.hid (show ((w.alloc (Obj.cells (s.cs A n c0) 24)).alloc (Obj.cells #[Value.string ⟨#[]⟩, Value.slice none 0 0, iv 0, iv 0, iv 0, iv 0, iv 0, iv 0, iv 0, iv 0, iv 0, iv 0, iv 0] 24)).heap[w.heap.size + 1]? = some (.cells (S.zero.cs none 0 0) 24 (0, 0)) from heap_alloc2_new w (Obj.cells (s.cs A n c0) 24) (Obj.cells #[Value.string ⟨#[]⟩, Value.slice none 0 0, iv 0, iv 0, iv 0, iv 0, iv 0, iv 0, iv 0, iv 0, iv 0, iv 0, iv 0] 24))
  have B0 : Below w.heap.size w ((w.alloc (Obj.cells (s.cs A n c0) 24)).alloc (Obj.cells #[Value.string ⟨#[]⟩, Value.slice none 0 0, iv 0, iv 0, iv 0, iv 0, iv 0, iv 0, iv 0, iv 0, iv 0, iv 0, iv 0] 24)) := ((Below.refl _ _).alloc (Nat.le_refl _) _).alloc (by simp) _
  have P0 := Lib.hid (show ((w.alloc (Obj.cells (s.cs A n c0) 24)).alloc (Obj.cells #[Value.string ⟨#[]⟩, Value.slice none 0 0, iv 0, iv 0, iv 0, iv 0, iv 0, iv 0, iv 0, iv 0, iv 0, iv 0, iv 0] 24)).heap[w.heap.size]? = some (.cells (s.cs A n c0) 24 (0, 0)) from heap_alloc2_old w _ _)
  have D0 := Lib.hid (hA.later B0)
  have VC := Lib.hid (show ∀ (W : World), DataAt W A n b o xs → Calls Try.prog 25 #[.agg (s.cs A n c0)] W fun e w' => e = .returned (.bool true) ∧ Below W.heap.size W w' from fun W h => by have := rvalid_any s A n c0 b o xs hn hc0 W h; rwa [hv] at this)
  obtain ⟨_, _, n4, _, _, _, l7, l10⟩ := vS_yes hv
  unfold LpOk at l7 l10
  have HN := Lib.hid n4
  have h6 := (vS_yes hv).2.2.2.2.2.1
  unfold RgOk at h6
  have I1 := Lib.hid fun (W : World) => rin_yes (kind : Int) 0 4 W (by omega) (by omega)
  have I2 := Lib.hid fun (W : World) => rin_yes num 1 10000 W (by omega) (by omega)
  have I3 := Lib.hid fun (W : World) => rin_yes den 1 10000 W (by omega) (by omega)
  have hn4 := (vS_yes hv).2.2.1
  have QQ := Lib.hid (quo_facts (a := (n : Int)) (num := num) (den := den) (A := 4096) (by omega) ⟨by omega, by omega⟩ hr hr2)
  rw [hm] at QQ
  have hz : (den = 0) = False := eq_false (by omega)
  have d1 : decide (4096 < (m : Int)) = false := decide_eq_false (by omega)
  have n1 : decide (4096 < m) = false := decide_eq_false (by omega)
  have l0 : (0 : Int) ≤ (m : Int) := by omega
  have hzn : (num = 0) = False := eq_false (by omega)
  have HM := Lib.hid hm4
  have HA2 := Lib.hid ha2
  have HD := Lib.hid hA
  have HBT := limit_hb hv
  have HBB := Lib.hid HBT
  obtain ⟨i0, hi, hz0, hz1, hz2⟩ := info_parts info3
  have RP := Lib.hid fun (j : Nat) (hj : j < m) => rs_place hr hr2 hm hm4 hj
  have AC := Lib.hid fun (j : Nat) (hj : j < m) (W : World) (hB : Below w.heap.size w W) => (show Calls Try.prog 86 #[.agg ((bareS s).cs A n c0), .agg #[iv (rsX num den j / 65536), iv (rsX num den j % 65536), .bool false, .bool false], iv kind, .bool false] W fun e w' => e = .returned (iv (rsV s n xs num den kind j)) ∧ Below W.heap.size W w' from by
    rw [← bare_snd]
    exact rsound_any kind hk (bareS s) A n c0 b o xs (rsC num den j) false (bare_valid hv) (okB_iff.2 (by
      have := rs_place hr hr2 hm hm4 hj
      unfold CurOk rsC
      rw [if_neg (show ¬ (false = true) by decide)]
      simp only
      omega)) rfl hn hc0 W (HD.out.later hB))
  have HV := Lib.hid fun (j : Nat) => rsV_bd hv num den kind j hk
  have RT := Lib.hid (quo_facts (a := s.a3) (num := num) (den := den) (A := 65535) (by omega) ⟨by omega, by omega⟩ hr hr2)
  have R8 := Lib.hid (quo_facts (a := s.a8) (num := num) (den := den) (A := 4096) (by omega) (lp_bd l7 hn4).1 hr hr2)
  have R9 := Lib.hid (quo_facts (a := s.a9) (num := num) (den := den) (A := 4096) (by omega) (lp_bd l7 hn4).2 hr hr2)
  have R11 := Lib.hid (quo_facts (a := s.a11) (num := num) (den := den) (A := 4096) (by omega) (lp_bd l10 hn4).1 hr hr2)
  have R12 := Lib.hid (quo_facts (a := s.a12) (num := num) (den := den) (A := 4096) (by omega) (lp_bd l10 hn4).2 hr hr2)
  clear hA hv l7 l10 h6 ha2 hk hr hr2 hm hm4 hn4 HBT
  go_enter Try.func48, Try.ntmps48
  go_upto_region 7 with (first
    | (refine wpList_load_row rfl 24 (.tmp 4) rfl (w.heap.size) rfl 24 _ (0, 0) _ P0.out Try.underlying24 rfl (S.i24 _ _ _ _) ?_)
    | (go_at_call 25; (with_reducible refine (VC.out _ D0.out).mono ?_); rintro e w1 ⟨rfl, hb1⟩; have P1 := Lib.hid (bkBelow P0.out hb1); have H1 := Lib.hid (bkBelow H0.out hb1); have D1 := Lib.hid (D0.out.later hb1); have B1 := bdT B0 B0.size hb1)
    | (go_at_call 90; (with_reducible refine (I1.out _).mono ?_); rintro e w2 ⟨rfl, rfl⟩)
    | (go_at_call 90; (with_reducible refine (I2.out _).mono ?_); rintro e w2 ⟨rfl, rfl⟩)
    | (go_at_call 90; (with_reducible refine (I3.out _).mono ?_); rintro e w2 ⟨rfl, rfl⟩))
  have HP := Lib.hid (bkLt P1.out)
  have HH := Lib.hid (bkLt H1.out)
  have p1 := (bkCell P1.out 1).trans (show _ = some (Value.slice A n c0) from rfl)
  obtain ⟨f1, f2, f3, _, _⟩ := QQ.out
  go_upto_region 10 with (fail)
  clear d1 n1 f1 f2 f3 p1 D1 P0 H0 D0 B0
  go_upto_region 11 with (first
    | (refine wpList_load_row rfl 24 (.tmp 4) rfl (w.heap.size) rfl 24 _ (0, 0) _ P1.out Try.underlying24 rfl (S.i24 _ _ _ _) ?_)
    | (refine wpList_store_row rfl 24 (.tmp 11) (.tmp 44) rfl (w1.heap.size) (s.cs A n c0) rfl rfl 24 _ (heap_alloc_new w1 (Obj.cells #[Value.string ⟨#[]⟩, Value.slice none 0 0, iv 0, iv 0, iv 0, iv 0, iv 0, iv 0, iv 0, iv 0, iv 0, iv 0, iv 0] 24)) (S.i24 _ _ _ _) (S.sz S.zero _ none _ 0 0 _ _) (S.one _ _ _ _) ?_; have K2 := below_setRow ((Below.refl w1.heap.size w1).alloc (Nat.le_refl _) (Obj.cells #[Value.string ⟨#[]⟩, Value.slice none 0 0, iv 0, iv 0, iv 0, iv 0, iv 0, iv 0, iv 0, iv 0, iv 0, iv 0, iv 0] 24)) (g := w1.heap.size) (Nat.le_refl _) (s.cs A n c0); have P2 := Lib.hid (bkBelow P1.out K2); have H2 := Lib.hid (bkBelow H1.out K2); have B2 := bdT B1 B1.size K2; have U2 := Lib.hid (setRow_heap _ _ _ (s.cs A n c0) _ _ (heap_alloc_new w1 (Obj.cells #[Value.string ⟨#[]⟩, Value.slice none 0 0, iv 0, iv 0, iv 0, iv 0, iv 0, iv 0, iv 0, iv 0, iv 0, iv 0, iv 0] 24))); clear P1 H1))
  have SZ : ((w1.alloc (Obj.cells #[Value.string ⟨#[]⟩, Value.slice none 0 0, iv 0, iv 0, iv 0, iv 0, iv 0, iv 0, iv 0, iv 0, iv 0, iv 0, iv 0] 24)).setRow w1.heap.size (s.cs A n c0)).heap.size = w1.heap.size + 1 := by simp
  generalize (w1.alloc (Obj.cells #[Value.string ⟨#[]⟩, Value.slice none 0 0, iv 0, iv 0, iv 0, iv 0, iv 0, iv 0, iv 0, iv 0, iv 0, iv 0, iv 0] 24)).setRow w1.heap.size (s.cs A n c0) = w2 at *
  have t7 := (bkCell U2.out 7).trans (show _ = some (iv s.a7) from rfl)
  have u7 := bkFrozen U2.out 7
  have t8 := (bkCell U2.out 8).trans (show _ = some (iv s.a8) from rfl)
  have u8 := bkFrozen U2.out 8
  have t9 := (bkCell U2.out 9).trans (show _ = some (iv s.a9) from rfl)
  have u9 := bkFrozen U2.out 9
  have t10 := (bkCell U2.out 10).trans (show _ = some (iv s.a10) from rfl)
  have u10 := bkFrozen U2.out 10
  have t11 := (bkCell U2.out 11).trans (show _ = some (iv s.a11) from rfl)
  have u11 := bkFrozen U2.out 11
  have t12 := (bkCell U2.out 12).trans (show _ = some (iv s.a12) from rfl)
  have u12 := bkFrozen U2.out 12
  go_upto_region 12 with (fail)
  have U3 := Lib.hid (show _ = some (Obj.cells ((bareS s).cs A n c0) 24 (0, 0)) from (bkPut (bkPut (bkPut (bkPut (bkPut (bkPut U2.out 7 (iv 0) (show _ = S.cs ⟨s.nm, s.a2, s.a3, s.a4, s.a5, s.a6, 0, s.a8, s.a9, s.a10, s.a11, s.a12⟩ A n c0 from rfl)) 8 (iv 0) (show _ = S.cs ⟨s.nm, s.a2, s.a3, s.a4, s.a5, s.a6, 0, 0, s.a9, s.a10, s.a11, s.a12⟩ A n c0 from rfl)) 9 (iv 0) (show _ = S.cs ⟨s.nm, s.a2, s.a3, s.a4, s.a5, s.a6, 0, 0, 0, s.a10, s.a11, s.a12⟩ A n c0 from rfl)) 10 (iv 0) (show _ = S.cs ⟨s.nm, s.a2, s.a3, s.a4, s.a5, s.a6, 0, 0, 0, 0, s.a11, s.a12⟩ A n c0 from rfl)) 11 (iv 0) (show _ = S.cs ⟨s.nm, s.a2, s.a3, s.a4, s.a5, s.a6, 0, 0, 0, 0, 0, s.a12⟩ A n c0 from rfl)) 12 (iv 0) (show _ = S.cs ⟨s.nm, s.a2, s.a3, s.a4, s.a5, s.a6, 0, 0, 0, 0, 0, 0⟩ A n c0 from rfl)))
  have P3 := Lib.hid (bkFar (bkFar (bkFar (bkFar (bkFar (bkFar P2.out (p := ⟨w1.heap.size, 7, none⟩) (by have := HP.out; simp; omega) (iv 0)) (p := ⟨w1.heap.size, 8, none⟩) (by have := HP.out; simp; omega) (iv 0)) (p := ⟨w1.heap.size, 9, none⟩) (by have := HP.out; simp; omega) (iv 0)) (p := ⟨w1.heap.size, 10, none⟩) (by have := HP.out; simp; omega) (iv 0)) (p := ⟨w1.heap.size, 11, none⟩) (by have := HP.out; simp; omega) (iv 0)) (p := ⟨w1.heap.size, 12, none⟩) (by have := HP.out; simp; omega) (iv 0))
  have H3 := Lib.hid (bkFar (bkFar (bkFar (bkFar (bkFar (bkFar H2.out (p := ⟨w1.heap.size, 7, none⟩) (by have := HH.out; simp; omega) (iv 0)) (p := ⟨w1.heap.size, 8, none⟩) (by have := HH.out; simp; omega) (iv 0)) (p := ⟨w1.heap.size, 9, none⟩) (by have := HH.out; simp; omega) (iv 0)) (p := ⟨w1.heap.size, 10, none⟩) (by have := HH.out; simp; omega) (iv 0)) (p := ⟨w1.heap.size, 11, none⟩) (by have := HH.out; simp; omega) (iv 0)) (p := ⟨w1.heap.size, 12, none⟩) (by have := HH.out; simp; omega) (iv 0))
  have B3 := ((((((B2.setCell (p := ⟨w1.heap.size, 7, none⟩) (Nat.le_of_lt HP.out) (iv 0)).setCell (p := ⟨w1.heap.size, 8, none⟩) (Nat.le_of_lt HP.out) (iv 0)).setCell (p := ⟨w1.heap.size, 9, none⟩) (Nat.le_of_lt HP.out) (iv 0)).setCell (p := ⟨w1.heap.size, 10, none⟩) (Nat.le_of_lt HP.out) (iv 0)).setCell (p := ⟨w1.heap.size, 11, none⟩) (Nat.le_of_lt HP.out) (iv 0)).setCell (p := ⟨w1.heap.size, 12, none⟩) (Nat.le_of_lt HP.out) (iv 0))
  clear t7 u7 t8 u8 t9 u9 t10 u10 t11 u11 t12 u12 U2 P2 H2 B2 SZ
  generalize ((((((w2.setCell ⟨w1.heap.size, 7, none⟩ (iv 0)).setCell ⟨w1.heap.size, 8, none⟩ (iv 0)).setCell ⟨w1.heap.size, 9, none⟩ (iv 0)).setCell ⟨w1.heap.size, 10, none⟩ (iv 0)).setCell ⟨w1.heap.size, 11, none⟩ (iv 0)).setCell ⟨w1.heap.size, 12, none⟩ (iv 0)) = w3 at *
  have HS := Lib.hid (show w1.heap.size < w3.heap.size from bkLt U3.out)
  go_upto_region 13 with (at_make; refine wpList_make_full _ rfl _ _ 22 rfl w3.heap.size 3 i0 (.int .i64 0) 1 Try.underlying22 hi hz0 hz1 .i64 .i64 _ _ m rfl rfl rfl rfl (by rw [hz2]; have := HM.out; omega) (by unfold maxLen; have := HM.out; omega) (Nat.le_refl _) ?_; intro w4 hown hgrow)
  have k4 : Below w3.heap.size w3 w4 := (Below.refl _ _).grown hgrow (Nat.le_refl _) (by simp)
  have P4 := Lib.hid (bkBelow P3.out k4)
  have H4 := Lib.hid (bkBelow H3.out k4)
  have U4 := Lib.hid (bkBelow U3.out k4)
  have O4 := Lib.hid hown
  have B4 := bdT B3 B3.size k4
  clear k4 hown hgrow P3 H3 U3 B3
  go_upto_region 14 with (fail)
  go_loopw [55] (fun v wr => ∃ (j : Nat) (F : Nat → Int), j ≤ m ∧ v = iv j ∧ (∀ i, i < j → F i = rsW s n xs num den kind i) ∧ wr.heap[w.heap.size]? = some (.cells (s.cs A n c0) 24 (0, 0)) ∧ wr.heap[w.heap.size + 1]? = some (.cells (S.zero.cs none 0 0) 24 (0, 0)) ∧ wr.heap[w1.heap.size]? = some (.cells ((bareS s).cs A n c0) 24 (0, 0)) ∧ wr.ownsRow w3.heap.size 3 1 (.slice (some ⟨w3.heap.size, 0, none⟩) m m) m (rw_ F m) ∧ Below w.heap.size w wr) (fun v _ => m - (intOf v).toNat)
  case atStart => exact ⟨0, fun _ => 0, by omega, rfl, fun i hi => by omega, P4.out, H4.out, U4.out, ownN O4.out (by rw [rw_zero]; first | rfl | (rw [Nat.mul_one]; exact toList_madeCells_one _ _)), B4⟩
  case round =>
    clear P4 H4 U4 O4 B4
    obtain ⟨j, F, hj, rfl, hF, hP, hH, hU, hO, hB⟩ := hrel
    have NF := Lib.hid hF
    have NP := Lib.hid hP
    have NH := Lib.hid hH
    have NU := Lib.hid hU
    have NO := Lib.hid hO
    have l3 : (0 : Int) ≤ (j : Int) := by omega
    clear hF hP hH hU hO
    by_cases hlt : j < m
    · have l4 : (j : Int) < (m : Int) := by omega
      have TQ := Lib.hid (AC.out j hlt wr hB)
      have RV := Lib.hid (HV.out j)
      obtain ⟨v, hv⟩ : ∃ v, rsV s n xs num den kind j = v := ⟨_, rfl⟩
      have HVV := Lib.hid hv
      rw [hv] at TQ RV
      clear hv
      obtain ⟨f1, f2, f3, f4, f5, f6, f7, f8, _, _, _, _⟩ := RP.out j hlt
      go_upto_region 18 with (first
        | (refine wpList_load_row rfl 24 (.tmp 11) rfl (w1.heap.size) rfl 24 _ (0, 0) _ NU.out Try.underlying24 rfl (S.i24 _ _ _ _) ?_)
        | (go_at_call 86; (with_reducible refine TQ.out.mono ?_); rintro e w7 ⟨rfl, hb7⟩; have P7 := Lib.hid (bkBelow NP.out hb7); have H7 := Lib.hid (bkBelow NH.out hb7); have U7 := Lib.hid (bkBelow NU.out hb7); have O7 := Lib.hid (ownBelow NO.out hb7); have B7 := bdT hB hB.size hb7))
      clear f1 f2 f3 f4 f5 f6 f7 f8
      have p2 := (bkCell P7.out 2).trans (show _ = some (iv s.a2) from rfl)
      rw [HA2.out] at p2
      have e1 : wrap64 (v + 128) = v + 128 := wrap_in (by have := RV.out; omega) (by have := RV.out; omega)
      have FQ := Lib.hid fun (W : World) => floordiv_any (v + 128) 256 (by have := RV.out; clear e1; omega) (by have := RV.out; clear e1; omega) (by omega) (by omega) W
      have s4 : w7.cell? ⟨w3.heap.size, j, none⟩ = some (iv (F j)) := (O7.out.cellAt j (by omega)).trans (rw_at F m j hlt)
      have f4 := O7.out.frozenAt j
      go_upto_region 21 with (go_at_call 91; (with_reducible refine (FQ.out _).mono ?_); rintro e wz ⟨rfl, rfl⟩)
      have HW := Lib.hid (show ((v + 128) / 256) = rsW s n xs num den kind j from by unfold rsW; rw [HVV.out, if_pos HA2.out])
      have hs := HS.out
      have hp := HP.out
      have hh := HH.out
      have P8 := Lib.hid (bkFar P7.out (p := ⟨w3.heap.size, j, none⟩) (by simp; omega) (iv ((v + 128) / 256)))
      have H8 := Lib.hid (bkFar H7.out (p := ⟨w3.heap.size, j, none⟩) (by simp; omega) (iv ((v + 128) / 256)))
      have U8 := Lib.hid (bkFar U7.out (p := ⟨w3.heap.size, j, none⟩) (by simp; omega) (iv ((v + 128) / 256)))
      have O8 := Lib.hid (ownN (O7.out.stored j (iv ((v + 128) / 256))).1 (rw_set F m j ((v + 128) / 256)))
      have B8 := B7.setCell (p := ⟨w3.heap.size, j, none⟩) (by simp; omega) (iv ((v + 128) / 256))
      clear P7 H7 U7 O7 B7 p2 s4 f4 hs hp hh hb7
      go_wp2
      exact ⟨⟨j + 1, fun i => if i = j then ((v + 128) / 256) else F i, by omega, by go_num, fun i hi => by
        by_cases e : i = j
        · subst e; simp [HW.out]
        · simp [e]; exact NF.out i (by omega), P8.out, H8.out, U8.out, O8.out, B8⟩, by simp [intOf]; omega⟩
    · obtain rfl : j = m := by omega
      have OD := Lib.hid ((ownData NO.out).congr fun i hi => NF.out i hi)
      have MC := Lib.hid (made_any s A n c0 (some ⟨w3.heap.size, 0, none⟩) j j w3.heap.size 0 (rsW s n xs num den kind) (hb s.a2) HBB.out (by have := HM.out; omega) wr OD.out)
      go_upto_region 22 with (fail)
      go_upto_region 23 with (first
        | (refine wpList_load_row rfl 24 (.tmp 4) rfl (w.heap.size) rfl 24 _ (0, 0) _ NP.out Try.underlying24 rfl (S.i24 _ _ _ _) ?_)
        | (go_at_call 92; (with_reducible refine MC.out.mono ?_); rintro e w9 ⟨g, rfl, hdat, hg, hb9⟩; have P9 := Lib.hid (bkBelow NP.out hb9); have H9_ := Lib.hid (bkBelow NH.out hb9); have D9 := Lib.hid hdat; have B9 := bdT hB hB.size hb9; have G9 := Lib.hid (show wr.heap.size ≤ g from hg); clear hdat hg)
        | (refine wpList_store_row rfl 24 (.tmp 16) (.tmp 85) rfl (w9.heap.size) (s.cs (some ⟨g, 0, none⟩) j j) rfl rfl 24 _ (heap_alloc_new w9 (Obj.cells #[Value.string ⟨#[]⟩, Value.slice none 0 0, iv 0, iv 0, iv 0, iv 0, iv 0, iv 0, iv 0, iv 0, iv 0, iv 0, iv 0] 24)) (S.i24 _ _ _ _) (S.sz S.zero _ none _ 0 0 _ _) (S.one _ _ _ _) ?_))
      have k10 := below_setRow ((Below.refl w9.heap.size w9).alloc (Nat.le_refl _) (Obj.cells #[Value.string ⟨#[]⟩, Value.slice none 0 0, iv 0, iv 0, iv 0, iv 0, iv 0, iv 0, iv 0, iv 0, iv 0, iv 0, iv 0] 24)) (g := w9.heap.size) (Nat.le_refl _) (s.cs (some ⟨g, 0, none⟩) j j)
      have H9 := Lib.hid (show w.heap.size < w9.heap.size ∧ w.heap.size + 1 < w9.heap.size ∧ w.heap.size + 1 < g from ⟨bkLt P9.out, bkLt H9_.out, by have := bkLt NH.out; have := G9.out; omega⟩)
      have P10 := Lib.hid (bkBelow P9.out k10)
      have H10 := Lib.hid (bkBelow H9_.out k10)
      have T10 := Lib.hid (setRow_heap _ _ _ (s.cs (some ⟨g, 0, none⟩) j j) _ _ (heap_alloc_new w9 (Obj.cells #[Value.string ⟨#[]⟩, Value.slice none 0 0, iv 0, iv 0, iv 0, iv 0, iv 0, iv 0, iv 0, iv 0, iv 0, iv 0, iv 0] 24)))
      have Z10 := k10
      have B10 := bdT B9 B9.size k10
      clear k10 P9 H9_ B9 hb9
      generalize (w9.alloc (Obj.cells #[Value.string ⟨#[]⟩, Value.slice none 0 0, iv 0, iv 0, iv 0, iv 0, iv 0, iv 0, iv 0, iv 0, iv 0, iv 0, iv 0] 24)).setRow w9.heap.size (s.cs (some ⟨g, 0, none⟩) j j) = w10 at *
      have p3 := (bkCell P10.out 3).trans (show _ = some (iv s.a3) from rfl)
      have t3 := (bkCell T10.out 3).trans (show _ = some (iv s.a3) from rfl)
      have u3 := bkFrozen T10.out 3
      obtain ⟨f1, f2, f3, _, _⟩ := RT.out
      go_upto_region 24 with (go_at_call 93; (with_reducible refine (rate_any _ _).mono ?_); rintro e wz ⟨rfl, rfl⟩)
      clear f1 f2 f3
      obtain ⟨rt, hrt⟩ : ∃ rt, rateR (s.a3 * num / den) = rt := ⟨_, rfl⟩
      have HRT := Lib.hid hrt
      rw [hrt]
      clear hrt
      have P11 := Lib.hid (bkFar P10.out (p := ⟨w9.heap.size, 3, none⟩) (by have := H9.out; simp; omega) (iv rt))
      have H11 := Lib.hid (bkFar H10.out (p := ⟨w9.heap.size, 3, none⟩) (by have := H9.out; simp; omega) (iv rt))
      have T11 := Lib.hid (bkPut T10.out 3 (iv rt) (show _ = S.cs ⟨s.nm, s.a2, rt, s.a4, s.a5, s.a6, s.a7, s.a8, s.a9, s.a10, s.a11, s.a12⟩ (some ⟨g, 0, none⟩) j j from rfl))
      have Z11 := Z10.setCell (p := ⟨w9.heap.size, 3, none⟩) (Nat.le_refl _) (iv rt)
      have B11 := B10.setCell (p := ⟨w9.heap.size, 3, none⟩) (by have := H9.out; simp; omega) (iv rt)
      clear p3 t3 u3 P10 H10 T10 Z10 B10
      generalize w10.setCell ⟨w9.heap.size, 3, none⟩ (iv rt) = w11 at *
      obtain ⟨f1, f2, f3, _, _⟩ := R8.out
      obtain ⟨g1, g2, g3, _, _⟩ := R9.out
      have t7 := (bkCell T11.out 7).trans (show _ = some (iv s.a7) from rfl)
      have v7 := bkFrozen T11.out 7
      have t8 := (bkCell T11.out 8).trans (show _ = some (iv s.a8) from rfl)
      have v8 := bkFrozen T11.out 8
      have t9 := (bkCell T11.out 9).trans (show _ = some (iv s.a9) from rfl)
      have v9 := bkFrozen T11.out 9
      refine start_ (n := 25) (S := fun w' => w'.heap[w.heap.size]? = some (.cells (s.cs A n c0) 24 (0, 0)) ∧ w'.heap[w.heap.size + 1]? = some (.cells (S.zero.cs none 0 0) 24 (0, 0)) ∧ w'.heap[w9.heap.size]? = some (.cells (S.cs ⟨s.nm, s.a2, rt, s.a4, s.a5, s.a6, s.a7, s.a8, s.a9, s.a10, s.a11, s.a12⟩ (some ⟨g, 0, none⟩) j j) 24 (0, 0)) ∧ Below w9.heap.size w9 w' ∧ Below w.heap.size w w') (ds := [20, 22, 24]) #[false, false, false, false, false, false, false, false, false, false, false, false, false, false, false, false, false, false, false, false, false, false, false, false, false] (by kernel_rfl) rfl rfl ⟨P11.out, H11.out, T11.out, bdR Z11, B11.drew⟩ (fun hHeld => ?_)
      refine pure_ (i := 0) (N := some 95) (v := ?_) (a' := ?_) #[true, false, false, false, false, false, false, false, false, false, false, false, false, false, false, false, false, false, false, false, false, false, false, false, false] rfl rfl (by kernel_rfl) (fun _ _ _ h => h) (Or.inl ⟨by rfl, ?_⟩) ?_ ?_
      rotate_left
      · intro w'
        go_simp
        with_reducible rfl
      rotate_left
      · simp only [Act.put, List.setIfInBounds_toArray, List.set_cons_zero, List.set_cons_succ, i64_w, i32_w, f1, f2, f3, g1, g2, g3, hz]
        rfl
      refine pure_ (i := 2) (N := some 97) (v := ?_) (a' := ?_) #[true, false, true, false, false, false, false, false, false, false, false, false, false, false, false, false, false, false, false, false, false, false, false, false, false] rfl rfl (by kernel_rfl) (fun _ _ _ h => h) (Or.inl ⟨by rfl, ?_⟩) ?_ ?_
      rotate_left
      · intro w'
        go_simp
        with_reducible rfl
      rotate_left
      · simp only [Act.put, List.setIfInBounds_toArray, List.set_cons_zero, List.set_cons_succ, i64_w, i32_w, f1, f2, f3, g1, g2, g3, hz]
        rfl
      refine pure_ (i := 4) (N := some 99) (v := ?_) (a' := ?_) #[true, false, true, false, true, false, false, false, false, false, false, false, false, false, false, false, false, false, false, false, false, false, false, false, false] rfl rfl (by kernel_rfl) (fun _ _ _ h => h) (Or.inl ⟨by rfl, ?_⟩) ?_ ?_
      rotate_left
      · intro w'
        go_simp
        with_reducible rfl
      rotate_left
      · simp only [Act.put, List.setIfInBounds_toArray, List.set_cons_zero, List.set_cons_succ, i64_w, i32_w, f1, f2, f3, g1, g2, g3, hz]
        rfl
      refine pure_ (i := 6) (N := some 101) (v := ?_) (a' := ?_) #[true, false, true, false, true, false, true, false, false, false, false, false, false, false, false, false, false, false, false, false, false, false, false, false, false] rfl rfl (by kernel_rfl) (fun _ _ _ h => h) (Or.inl ⟨by rfl, ?_⟩) ?_ ?_
      rotate_left
      · intro w'
        go_simp
        with_reducible rfl
      rotate_left
      · simp only [Act.put, List.setIfInBounds_toArray, List.set_cons_zero, List.set_cons_succ, i64_w, i32_w, f1, f2, f3, g1, g2, g3, hz]
        rfl
      refine pure_ (i := 8) (N := some 103) (v := ?_) (a' := ?_) #[true, false, true, false, true, false, true, false, true, false, false, false, false, false, false, false, false, false, false, false, false, false, false, false, false] rfl rfl (by kernel_rfl) (fun _ _ _ h => h) (Or.inl ⟨by rfl, ?_⟩) ?_ ?_
      rotate_left
      · intro w'
        go_simp
        with_reducible rfl
      rotate_left
      · simp only [Act.put, List.setIfInBounds_toArray, List.set_cons_zero, List.set_cons_succ, i64_w, i32_w, f1, f2, f3, g1, g2, g3, hz]
        rfl
      refine pure_ (i := 10) (N := some 105) (v := ?_) (a' := ?_) #[true, false, true, false, true, false, true, false, true, false, true, false, false, false, false, false, false, false, false, false, false, false, false, false, false] rfl rfl (by kernel_rfl) (fun _ _ _ h => h) (Or.inl ⟨by rfl, ?_⟩) ?_ ?_
      rotate_left
      · intro w'
        go_simp
        with_reducible rfl
      rotate_left
      · simp only [Act.put, List.setIfInBounds_toArray, List.set_cons_zero, List.set_cons_succ, i64_w, i32_w, f1, f2, f3, g1, g2, g3, hz]
        rfl
      refine pure_ (i := 12) (N := some 107) (v := ?_) (a' := ?_) #[true, false, true, false, true, false, true, false, true, false, true, false, true, false, false, false, false, false, false, false, false, false, false, false, false] rfl rfl (by kernel_rfl) (fun _ _ _ h => h) (Or.inl ⟨by rfl, ?_⟩) ?_ ?_
      rotate_left
      · intro w'
        go_simp
        with_reducible rfl
      rotate_left
      · simp only [Act.put, List.setIfInBounds_toArray, List.set_cons_zero, List.set_cons_succ, i64_w, i32_w, f1, f2, f3, g1, g2, g3, hz]
        rfl
      refine take_ (i := 1) (N := some 96) (v := ?_) (a' := ?_) #[true, true, true, false, true, false, true, false, true, false, true, false, true, false, false, false, false, false, false, false, false, false, false, false, false] rfl rfl (by kernel_rfl) (fun _ _ _ h => h) (Or.inl ⟨by rfl, ?_⟩) hHeld ?_ ?_
      rotate_left
      · rintro w' ⟨s0, s1, s2, s3, s4⟩
        have zc := (bkCell s0 7).trans (show _ = some (iv s.a7) from rfl)
        clear s0 s1 s2 s3 s4
        go_simp
        with_reducible rfl
      rotate_left
      · simp only [Act.put, List.setIfInBounds_toArray, List.set_cons_zero, List.set_cons_succ, i64_w, i32_w, f1, f2, f3, g1, g2, g3, hz]
        rfl
      refine take_ (i := 3) (N := some 98) (v := ?_) (a' := ?_) #[true, true, true, true, true, false, true, false, true, false, true, false, true, false, false, false, false, false, false, false, false, false, false, false, false] rfl rfl (by kernel_rfl) (fun _ _ _ h => h) (Or.inl ⟨by rfl, ?_⟩) hHeld ?_ ?_
      rotate_left
      · rintro w' ⟨s0, s1, s2, s3, s4⟩
        have zc := (bkCell s0 8).trans (show _ = some (iv s.a8) from rfl)
        clear s0 s1 s2 s3 s4
        go_simp
        with_reducible rfl
      rotate_left
      · simp only [Act.put, List.setIfInBounds_toArray, List.set_cons_zero, List.set_cons_succ, i64_w, i32_w, f1, f2, f3, g1, g2, g3, hz]
        rfl
      refine pure_ (i := 5) (N := some 100) (v := ?_) (a' := ?_) #[true, true, true, true, true, true, true, false, true, false, true, false, true, false, false, false, false, false, false, false, false, false, false, false, false] rfl rfl (by kernel_rfl) (fun _ _ _ h => h) (Or.inl ⟨by rfl, ?_⟩) ?_ ?_
      rotate_left
      · intro w'
        go_simp
        with_reducible rfl
      rotate_left
      · simp only [Act.put, List.setIfInBounds_toArray, List.set_cons_zero, List.set_cons_succ, i64_w, i32_w, f1, f2, f3, g1, g2, g3, hz]
        rfl
      refine pure_ (i := 7) (N := some 102) (v := ?_) (a' := ?_) #[true, true, true, true, true, true, true, true, true, false, true, false, true, false, false, false, false, false, false, false, false, false, false, false, false] rfl rfl (by kernel_rfl) (fun _ _ _ h => h) (Or.inl ⟨by rfl, ?_⟩) ?_ ?_
      rotate_left
      · intro w'
        go_simp
        with_reducible rfl
      rotate_left
      · simp only [Act.put, List.setIfInBounds_toArray, List.set_cons_zero, List.set_cons_succ, i64_w, i32_w, f1, f2, f3, g1, g2, g3, hz]
        rfl
      refine take_ (i := 9) (N := some 104) (v := ?_) (a' := ?_) #[true, true, true, true, true, true, true, true, true, true, true, false, true, false, false, false, false, false, false, false, false, false, false, false, false] rfl rfl (by kernel_rfl) (fun _ _ _ h => h) (Or.inl ⟨by rfl, ?_⟩) hHeld ?_ ?_
      rotate_left
      · rintro w' ⟨s0, s1, s2, s3, s4⟩
        have zc := (bkCell s0 9).trans (show _ = some (iv s.a9) from rfl)
        clear s0 s1 s2 s3 s4
        go_simp
        with_reducible rfl
      rotate_left
      · simp only [Act.put, List.setIfInBounds_toArray, List.set_cons_zero, List.set_cons_succ, i64_w, i32_w, f1, f2, f3, g1, g2, g3, hz]
        rfl
      refine pure_ (i := 11) (N := some 106) (v := ?_) (a' := ?_) #[true, true, true, true, true, true, true, true, true, true, true, true, true, false, false, false, false, false, false, false, false, false, false, false, false] rfl rfl (by kernel_rfl) (fun _ _ _ h => h) (Or.inl ⟨by rfl, ?_⟩) ?_ ?_
      rotate_left
      · intro w'
        go_simp
        with_reducible rfl
      rotate_left
      · simp only [Act.put, List.setIfInBounds_toArray, List.set_cons_zero, List.set_cons_succ, i64_w, i32_w, f1, f2, f3, g1, g2, g3, hz]
        rfl
      refine pure_ (i := 13) (N := some 108) (v := ?_) (a' := ?_) #[true, true, true, true, true, true, true, true, true, true, true, true, true, true, false, false, false, false, false, false, false, false, false, false, false] rfl rfl (by kernel_rfl) (fun _ _ _ h => h) (Or.inl ⟨by rfl, ?_⟩) ?_ ?_
      rotate_left
      · intro w'
        go_simp
        with_reducible rfl
      rotate_left
      · simp only [Act.put, List.setIfInBounds_toArray, List.set_cons_zero, List.set_cons_succ, i64_w, i32_w, f1, f2, f3, g1, g2, g3, hz]
        rfl
      refine one_ (i := 14) (N := some 109) #[true, true, true, true, true, true, true, true, true, true, true, true, true, true, true, false, false, false, false, false, false, false, false, false, false] rfl rfl (by kernel_rfl) (by decide) (fun K hK => ?_)
      obtain ⟨s0, s1, s2, s3, s4⟩ := hHeld
      refine goes_ Try.func94 (by kernel_rfl) rfl #[iv s.a7, iv (s.a8 * num / den), iv (s.a9 * num / den)] (by rfl) rfl rfl (by simp only [List.map_toArray, List.map_cons, List.map_nil]; rfl) ?_
      with_reducible refine (lp_any _ _ _ _).mono ?_
      rintro e wx ⟨rfl, rfl⟩
      refine ⟨_, rfl, ?_⟩
      refine hK.out _ _ ⟨s0, s1, s2, s3, s4⟩ (fun hHeld => ?_)
      clear hK K
      refine norm_ (a' := ?_) ?_ ?_
      rotate_left
      · show Act.put _ (some 109) _ = _
        simp only [Act.put, List.setIfInBounds_toArray, List.set_cons_zero, List.set_cons_succ, i64_w, i32_w, f1, f2, f3, g1, g2, g3, hz]
        rfl
      refine pure_ (i := 15) (N := some 94) (v := ?_) (a' := ?_) #[true, true, true, true, true, true, true, true, true, true, true, true, true, true, true, true, false, false, false, false, false, false, false, false, false] rfl rfl (by kernel_rfl) (fun _ _ _ h => h) (Or.inl ⟨by rfl, ?_⟩) ?_ ?_
      rotate_left
      · intro w'
        go_simp
        with_reducible rfl
      rotate_left
      · simp only [Act.put, List.setIfInBounds_toArray, List.set_cons_zero, List.set_cons_succ, i64_w, i32_w, f1, f2, f3, g1, g2, g3, hz]
        rfl
      refine pure_ (i := 16) (N := some 110) (v := ?_) (a' := ?_) #[true, true, true, true, true, true, true, true, true, true, true, true, true, true, true, true, true, false, false, false, false, false, false, false, false] rfl rfl (by kernel_rfl) (fun _ _ _ h => h) (Or.inl ⟨by rfl, ?_⟩) ?_ ?_
      rotate_left
      · intro w'
        go_simp
        with_reducible rfl
      rotate_left
      · simp only [Act.put, List.setIfInBounds_toArray, List.set_cons_zero, List.set_cons_succ, i64_w, i32_w, f1, f2, f3, g1, g2, g3, hz]
        rfl
      refine pure_ (i := 17) (N := some 111) (v := ?_) (a' := ?_) #[true, true, true, true, true, true, true, true, true, true, true, true, true, true, true, true, true, true, false, false, false, false, false, false, false] rfl rfl (by kernel_rfl) (fun _ _ _ h => h) (Or.inl ⟨by rfl, ?_⟩) ?_ ?_
      rotate_left
      · intro w'
        go_simp
        with_reducible rfl
      rotate_left
      · simp only [Act.put, List.setIfInBounds_toArray, List.set_cons_zero, List.set_cons_succ, i64_w, i32_w, f1, f2, f3, g1, g2, g3, hz]
        rfl
      refine pure_ (i := 18) (N := some 112) (v := ?_) (a' := ?_) #[true, true, true, true, true, true, true, true, true, true, true, true, true, true, true, true, true, true, true, false, false, false, false, false, false] rfl rfl (by kernel_rfl) (fun _ _ _ h => h) (Or.inl ⟨by rfl, ?_⟩) ?_ ?_
      rotate_left
      · intro w'
        go_simp
        with_reducible rfl
      rotate_left
      · simp only [Act.put, List.setIfInBounds_toArray, List.set_cons_zero, List.set_cons_succ, i64_w, i32_w, f1, f2, f3, g1, g2, g3, hz]
        rfl
      refine pure_ (i := 19) (N := some 113) (v := ?_) (a' := ?_) #[true, true, true, true, true, true, true, true, true, true, true, true, true, true, true, true, true, true, true, true, false, false, false, false, false] rfl rfl (by kernel_rfl) (fun _ _ _ h => h) (Or.inl ⟨by rfl, ?_⟩) ?_ ?_
      rotate_left
      · intro w'
        go_simp
        with_reducible rfl
      rotate_left
      · simp only [Act.put, List.setIfInBounds_toArray, List.set_cons_zero, List.set_cons_succ, i64_w, i32_w, f1, f2, f3, g1, g2, g3, hz]
        rfl
      refine last_ (i := 20) (N := none) #[true, true, true, true, true, true, true, true, true, true, true, true, true, true, true, true, true, true, true, true, true, false, false, false, false] rfl rfl (by kernel_rfl) (by decide) (fun K hK => ?_)
      refine skip_ (w1 := ?_) (by rfl) rfl ?_ ?_
      rotate_left
      · go_simp
        rfl
      refine hK.out _ _ ?_
      clear hK K
      refine pure_ (i := 21) (N := some 114) (v := ?_) (a' := ?_) #[true, true, true, true, true, true, true, true, true, true, true, true, true, true, true, true, true, true, true, true, true, true, false, false, false] rfl rfl (by kernel_rfl) (fun _ _ _ h => h) (Or.inl ⟨by rfl, ?_⟩) ?_ ?_
      rotate_left
      · intro w'
        go_simp
        with_reducible rfl
      rotate_left
      · simp only [Act.put, List.setIfInBounds_toArray, List.set_cons_zero, List.set_cons_succ, i64_w, i32_w, f1, f2, f3, g1, g2, g3, hz]
        rfl
      refine last_ (i := 22) (N := none) #[true, true, true, true, true, true, true, true, true, true, true, true, true, true, true, true, true, true, true, true, true, true, true, false, false] rfl rfl (by kernel_rfl) (by decide) (fun K hK => ?_)
      refine skip_ (w1 := ?_) (by rfl) rfl ?_ ?_
      rotate_left
      · go_simp
        rfl
      refine hK.out _ _ ?_
      clear hK K
      refine pure_ (i := 23) (N := some 115) (v := ?_) (a' := ?_) #[true, true, true, true, true, true, true, true, true, true, true, true, true, true, true, true, true, true, true, true, true, true, true, true, false] rfl rfl (by kernel_rfl) (fun _ _ _ h => h) (Or.inl ⟨by rfl, ?_⟩) ?_ ?_
      rotate_left
      · intro w'
        go_simp
        with_reducible rfl
      rotate_left
      · simp only [Act.put, List.setIfInBounds_toArray, List.set_cons_zero, List.set_cons_succ, i64_w, i32_w, f1, f2, f3, g1, g2, g3, hz]
        rfl
      refine last_ (i := 24) (N := none) #[true, true, true, true, true, true, true, true, true, true, true, true, true, true, true, true, true, true, true, true, true, true, true, true, true] rfl rfl (by kernel_rfl) (by decide) (fun K hK => ?_)
      refine skip_ (w1 := ?_) (by rfl) rfl ?_ ?_
      rotate_left
      · go_simp
        rfl
      refine hK.out _ _ ?_
      clear hK K
      refine done_ (by kernel_rfl) ?_
      clear f1 f2 f3 g1 g2 g3 t7 v7 t8 v8 t9 v9
      have P12 := Lib.hid (bkDw (bkFar (bkFar (bkFar P11.out (p := ⟨w9.heap.size, 7, none⟩) (by have := H9.out; simp; omega) (iv (lpR s.a7 (s.a8 * num / den) (s.a9 * num / den)).1)) (p := ⟨w9.heap.size, 8, none⟩) (by have := H9.out; simp; omega) (iv (lpR s.a7 (s.a8 * num / den) (s.a9 * num / den)).2.1)) (p := ⟨w9.heap.size, 9, none⟩) (by have := H9.out; simp; omega) (iv (lpR s.a7 (s.a8 * num / den) (s.a9 * num / den)).2.2)))
      have H12 := Lib.hid (bkDw (bkFar (bkFar (bkFar H11.out (p := ⟨w9.heap.size, 7, none⟩) (by have := H9.out; simp; omega) (iv (lpR s.a7 (s.a8 * num / den) (s.a9 * num / den)).1)) (p := ⟨w9.heap.size, 8, none⟩) (by have := H9.out; simp; omega) (iv (lpR s.a7 (s.a8 * num / den) (s.a9 * num / den)).2.1)) (p := ⟨w9.heap.size, 9, none⟩) (by have := H9.out; simp; omega) (iv (lpR s.a7 (s.a8 * num / den) (s.a9 * num / den)).2.2)))
      have T12 := Lib.hid (bkDw (bkPut (bkPut (bkPut T11.out 7 (iv (lpR s.a7 (s.a8 * num / den) (s.a9 * num / den)).1) (show _ = S.cs ⟨s.nm, s.a2, rt, s.a4, s.a5, s.a6, (lpR s.a7 (s.a8 * num / den) (s.a9 * num / den)).1, s.a8, s.a9, s.a10, s.a11, s.a12⟩ (some ⟨g, 0, none⟩) j j from rfl)) 8 (iv (lpR s.a7 (s.a8 * num / den) (s.a9 * num / den)).2.1) (show _ = S.cs ⟨s.nm, s.a2, rt, s.a4, s.a5, s.a6, (lpR s.a7 (s.a8 * num / den) (s.a9 * num / den)).1, (lpR s.a7 (s.a8 * num / den) (s.a9 * num / den)).2.1, s.a9, s.a10, s.a11, s.a12⟩ (some ⟨g, 0, none⟩) j j from rfl)) 9 (iv (lpR s.a7 (s.a8 * num / den) (s.a9 * num / den)).2.2) (show _ = S.cs ⟨s.nm, s.a2, rt, s.a4, s.a5, s.a6, (lpR s.a7 (s.a8 * num / den) (s.a9 * num / den)).1, (lpR s.a7 (s.a8 * num / den) (s.a9 * num / den)).2.1, (lpR s.a7 (s.a8 * num / den) (s.a9 * num / den)).2.2, s.a10, s.a11, s.a12⟩ (some ⟨g, 0, none⟩) j j from rfl)))
      have Z12 := ((((Z11).setCell (p := ⟨w9.heap.size, 7, none⟩) (Nat.le_refl _) (iv (lpR s.a7 (s.a8 * num / den) (s.a9 * num / den)).1)).setCell (p := ⟨w9.heap.size, 8, none⟩) (Nat.le_refl _) (iv (lpR s.a7 (s.a8 * num / den) (s.a9 * num / den)).2.1)).setCell (p := ⟨w9.heap.size, 9, none⟩) (Nat.le_refl _) (iv (lpR s.a7 (s.a8 * num / den) (s.a9 * num / den)).2.2)).drew
      have B12 := ((((B11).setCell (p := ⟨w9.heap.size, 7, none⟩) (by have := H9.out; simp; omega) (iv (lpR s.a7 (s.a8 * num / den) (s.a9 * num / den)).1)).setCell (p := ⟨w9.heap.size, 8, none⟩) (by have := H9.out; simp; omega) (iv (lpR s.a7 (s.a8 * num / den) (s.a9 * num / den)).2.1)).setCell (p := ⟨w9.heap.size, 9, none⟩) (by have := H9.out; simp; omega) (iv (lpR s.a7 (s.a8 * num / den) (s.a9 * num / den)).2.2)).drew
      clear P11 H11 T11 Z11 B11
      generalize (((w11.setCell ⟨w9.heap.size, 7, none⟩ (iv (lpR s.a7 (s.a8 * num / den) (s.a9 * num / den)).1)).setCell ⟨w9.heap.size, 8, none⟩ (iv (lpR s.a7 (s.a8 * num / den) (s.a9 * num / den)).2.1)).setCell ⟨w9.heap.size, 9, none⟩ (iv (lpR s.a7 (s.a8 * num / den) (s.a9 * num / den)).2.2)).drew = w12 at *
      go_upto_region 25 with (fail)
      obtain ⟨f1, f2, f3, _, _⟩ := R11.out
      obtain ⟨g1, g2, g3, _, _⟩ := R12.out
      have t10 := (bkCell T12.out 10).trans (show _ = some (iv s.a10) from rfl)
      have v10 := bkFrozen T12.out 10
      have t11 := (bkCell T12.out 11).trans (show _ = some (iv s.a11) from rfl)
      have v11 := bkFrozen T12.out 11
      have t12 := (bkCell T12.out 12).trans (show _ = some (iv s.a12) from rfl)
      have v12 := bkFrozen T12.out 12
      refine start_ (n := 25) (S := fun w' => w'.heap[w.heap.size]? = some (.cells (s.cs A n c0) 24 (0, 0)) ∧ w'.heap[w.heap.size + 1]? = some (.cells (S.zero.cs none 0 0) 24 (0, 0)) ∧ w'.heap[w9.heap.size]? = some (.cells (S.cs ⟨s.nm, s.a2, rt, s.a4, s.a5, s.a6, (lpR s.a7 (s.a8 * num / den) (s.a9 * num / den)).1, (lpR s.a7 (s.a8 * num / den) (s.a9 * num / den)).2.1, (lpR s.a7 (s.a8 * num / den) (s.a9 * num / den)).2.2, s.a10, s.a11, s.a12⟩ (some ⟨g, 0, none⟩) j j) 24 (0, 0)) ∧ Below w9.heap.size w9 w' ∧ Below w.heap.size w w') (ds := [20, 22, 24]) #[false, false, false, false, false, false, false, false, false, false, false, false, false, false, false, false, false, false, false, false, false, false, false, false, false] (by kernel_rfl) rfl rfl ⟨P12.out, H12.out, T12.out, bdR Z12, B12.drew⟩ (fun hHeld => ?_)
      refine pure_ (i := 0) (N := some 117) (v := ?_) (a' := ?_) #[true, false, false, false, false, false, false, false, false, false, false, false, false, false, false, false, false, false, false, false, false, false, false, false, false] rfl rfl (by kernel_rfl) (fun _ _ _ h => h) (Or.inl ⟨by rfl, ?_⟩) ?_ ?_
      rotate_left
      · intro w'
        go_simp
        with_reducible rfl
      rotate_left
      · simp only [Act.put, List.setIfInBounds_toArray, List.set_cons_zero, List.set_cons_succ, i64_w, i32_w, f1, f2, f3, g1, g2, g3, hz]
        rfl
      refine pure_ (i := 2) (N := some 119) (v := ?_) (a' := ?_) #[true, false, true, false, false, false, false, false, false, false, false, false, false, false, false, false, false, false, false, false, false, false, false, false, false] rfl rfl (by kernel_rfl) (fun _ _ _ h => h) (Or.inl ⟨by rfl, ?_⟩) ?_ ?_
      rotate_left
      · intro w'
        go_simp
        with_reducible rfl
      rotate_left
      · simp only [Act.put, List.setIfInBounds_toArray, List.set_cons_zero, List.set_cons_succ, i64_w, i32_w, f1, f2, f3, g1, g2, g3, hz]
        rfl
      refine pure_ (i := 4) (N := some 121) (v := ?_) (a' := ?_) #[true, false, true, false, true, false, false, false, false, false, false, false, false, false, false, false, false, false, false, false, false, false, false, false, false] rfl rfl (by kernel_rfl) (fun _ _ _ h => h) (Or.inl ⟨by rfl, ?_⟩) ?_ ?_
      rotate_left
      · intro w'
        go_simp
        with_reducible rfl
      rotate_left
      · simp only [Act.put, List.setIfInBounds_toArray, List.set_cons_zero, List.set_cons_succ, i64_w, i32_w, f1, f2, f3, g1, g2, g3, hz]
        rfl
      refine pure_ (i := 6) (N := some 123) (v := ?_) (a' := ?_) #[true, false, true, false, true, false, true, false, false, false, false, false, false, false, false, false, false, false, false, false, false, false, false, false, false] rfl rfl (by kernel_rfl) (fun _ _ _ h => h) (Or.inl ⟨by rfl, ?_⟩) ?_ ?_
      rotate_left
      · intro w'
        go_simp
        with_reducible rfl
      rotate_left
      · simp only [Act.put, List.setIfInBounds_toArray, List.set_cons_zero, List.set_cons_succ, i64_w, i32_w, f1, f2, f3, g1, g2, g3, hz]
        rfl
      refine pure_ (i := 8) (N := some 125) (v := ?_) (a' := ?_) #[true, false, true, false, true, false, true, false, true, false, false, false, false, false, false, false, false, false, false, false, false, false, false, false, false] rfl rfl (by kernel_rfl) (fun _ _ _ h => h) (Or.inl ⟨by rfl, ?_⟩) ?_ ?_
      rotate_left
      · intro w'
        go_simp
        with_reducible rfl
      rotate_left
      · simp only [Act.put, List.setIfInBounds_toArray, List.set_cons_zero, List.set_cons_succ, i64_w, i32_w, f1, f2, f3, g1, g2, g3, hz]
        rfl
      refine pure_ (i := 10) (N := some 127) (v := ?_) (a' := ?_) #[true, false, true, false, true, false, true, false, true, false, true, false, false, false, false, false, false, false, false, false, false, false, false, false, false] rfl rfl (by kernel_rfl) (fun _ _ _ h => h) (Or.inl ⟨by rfl, ?_⟩) ?_ ?_
      rotate_left
      · intro w'
        go_simp
        with_reducible rfl
      rotate_left
      · simp only [Act.put, List.setIfInBounds_toArray, List.set_cons_zero, List.set_cons_succ, i64_w, i32_w, f1, f2, f3, g1, g2, g3, hz]
        rfl
      refine pure_ (i := 12) (N := some 129) (v := ?_) (a' := ?_) #[true, false, true, false, true, false, true, false, true, false, true, false, true, false, false, false, false, false, false, false, false, false, false, false, false] rfl rfl (by kernel_rfl) (fun _ _ _ h => h) (Or.inl ⟨by rfl, ?_⟩) ?_ ?_
      rotate_left
      · intro w'
        go_simp
        with_reducible rfl
      rotate_left
      · simp only [Act.put, List.setIfInBounds_toArray, List.set_cons_zero, List.set_cons_succ, i64_w, i32_w, f1, f2, f3, g1, g2, g3, hz]
        rfl
      refine take_ (i := 1) (N := some 118) (v := ?_) (a' := ?_) #[true, true, true, false, true, false, true, false, true, false, true, false, true, false, false, false, false, false, false, false, false, false, false, false, false] rfl rfl (by kernel_rfl) (fun _ _ _ h => h) (Or.inl ⟨by rfl, ?_⟩) hHeld ?_ ?_
      rotate_left
      · rintro w' ⟨s0, s1, s2, s3, s4⟩
        have zc := (bkCell s0 10).trans (show _ = some (iv s.a10) from rfl)
        clear s0 s1 s2 s3 s4
        go_simp
        with_reducible rfl
      rotate_left
      · simp only [Act.put, List.setIfInBounds_toArray, List.set_cons_zero, List.set_cons_succ, i64_w, i32_w, f1, f2, f3, g1, g2, g3, hz]
        rfl
      refine take_ (i := 3) (N := some 120) (v := ?_) (a' := ?_) #[true, true, true, true, true, false, true, false, true, false, true, false, true, false, false, false, false, false, false, false, false, false, false, false, false] rfl rfl (by kernel_rfl) (fun _ _ _ h => h) (Or.inl ⟨by rfl, ?_⟩) hHeld ?_ ?_
      rotate_left
      · rintro w' ⟨s0, s1, s2, s3, s4⟩
        have zc := (bkCell s0 11).trans (show _ = some (iv s.a11) from rfl)
        clear s0 s1 s2 s3 s4
        go_simp
        with_reducible rfl
      rotate_left
      · simp only [Act.put, List.setIfInBounds_toArray, List.set_cons_zero, List.set_cons_succ, i64_w, i32_w, f1, f2, f3, g1, g2, g3, hz]
        rfl
      refine pure_ (i := 5) (N := some 122) (v := ?_) (a' := ?_) #[true, true, true, true, true, true, true, false, true, false, true, false, true, false, false, false, false, false, false, false, false, false, false, false, false] rfl rfl (by kernel_rfl) (fun _ _ _ h => h) (Or.inl ⟨by rfl, ?_⟩) ?_ ?_
      rotate_left
      · intro w'
        go_simp
        with_reducible rfl
      rotate_left
      · simp only [Act.put, List.setIfInBounds_toArray, List.set_cons_zero, List.set_cons_succ, i64_w, i32_w, f1, f2, f3, g1, g2, g3, hz]
        rfl
      refine pure_ (i := 7) (N := some 124) (v := ?_) (a' := ?_) #[true, true, true, true, true, true, true, true, true, false, true, false, true, false, false, false, false, false, false, false, false, false, false, false, false] rfl rfl (by kernel_rfl) (fun _ _ _ h => h) (Or.inl ⟨by rfl, ?_⟩) ?_ ?_
      rotate_left
      · intro w'
        go_simp
        with_reducible rfl
      rotate_left
      · simp only [Act.put, List.setIfInBounds_toArray, List.set_cons_zero, List.set_cons_succ, i64_w, i32_w, f1, f2, f3, g1, g2, g3, hz]
        rfl
      refine take_ (i := 9) (N := some 126) (v := ?_) (a' := ?_) #[true, true, true, true, true, true, true, true, true, true, true, false, true, false, false, false, false, false, false, false, false, false, false, false, false] rfl rfl (by kernel_rfl) (fun _ _ _ h => h) (Or.inl ⟨by rfl, ?_⟩) hHeld ?_ ?_
      rotate_left
      · rintro w' ⟨s0, s1, s2, s3, s4⟩
        have zc := (bkCell s0 12).trans (show _ = some (iv s.a12) from rfl)
        clear s0 s1 s2 s3 s4
        go_simp
        with_reducible rfl
      rotate_left
      · simp only [Act.put, List.setIfInBounds_toArray, List.set_cons_zero, List.set_cons_succ, i64_w, i32_w, f1, f2, f3, g1, g2, g3, hz]
        rfl
      refine pure_ (i := 11) (N := some 128) (v := ?_) (a' := ?_) #[true, true, true, true, true, true, true, true, true, true, true, true, true, false, false, false, false, false, false, false, false, false, false, false, false] rfl rfl (by kernel_rfl) (fun _ _ _ h => h) (Or.inl ⟨by rfl, ?_⟩) ?_ ?_
      rotate_left
      · intro w'
        go_simp
        with_reducible rfl
      rotate_left
      · simp only [Act.put, List.setIfInBounds_toArray, List.set_cons_zero, List.set_cons_succ, i64_w, i32_w, f1, f2, f3, g1, g2, g3, hz]
        rfl
      refine pure_ (i := 13) (N := some 130) (v := ?_) (a' := ?_) #[true, true, true, true, true, true, true, true, true, true, true, true, true, true, false, false, false, false, false, false, false, false, false, false, false] rfl rfl (by kernel_rfl) (fun _ _ _ h => h) (Or.inl ⟨by rfl, ?_⟩) ?_ ?_
      rotate_left
      · intro w'
        go_simp
        with_reducible rfl
      rotate_left
      · simp only [Act.put, List.setIfInBounds_toArray, List.set_cons_zero, List.set_cons_succ, i64_w, i32_w, f1, f2, f3, g1, g2, g3, hz]
        rfl
      refine one_ (i := 14) (N := some 131) #[true, true, true, true, true, true, true, true, true, true, true, true, true, true, true, false, false, false, false, false, false, false, false, false, false] rfl rfl (by kernel_rfl) (by decide) (fun K hK => ?_)
      obtain ⟨s0, s1, s2, s3, s4⟩ := hHeld
      refine goes_ Try.func94 (by kernel_rfl) rfl #[iv s.a10, iv (s.a11 * num / den), iv (s.a12 * num / den)] (by rfl) rfl rfl (by simp only [List.map_toArray, List.map_cons, List.map_nil]; rfl) ?_
      with_reducible refine (lp_any _ _ _ _).mono ?_
      rintro e wx ⟨rfl, rfl⟩
      refine ⟨_, rfl, ?_⟩
      refine hK.out _ _ ⟨s0, s1, s2, s3, s4⟩ (fun hHeld => ?_)
      clear hK K
      refine norm_ (a' := ?_) ?_ ?_
      rotate_left
      · show Act.put _ (some 131) _ = _
        simp only [Act.put, List.setIfInBounds_toArray, List.set_cons_zero, List.set_cons_succ, i64_w, i32_w, f1, f2, f3, g1, g2, g3, hz]
        rfl
      refine pure_ (i := 15) (N := some 116) (v := ?_) (a' := ?_) #[true, true, true, true, true, true, true, true, true, true, true, true, true, true, true, true, false, false, false, false, false, false, false, false, false] rfl rfl (by kernel_rfl) (fun _ _ _ h => h) (Or.inl ⟨by rfl, ?_⟩) ?_ ?_
      rotate_left
      · intro w'
        go_simp
        with_reducible rfl
      rotate_left
      · simp only [Act.put, List.setIfInBounds_toArray, List.set_cons_zero, List.set_cons_succ, i64_w, i32_w, f1, f2, f3, g1, g2, g3, hz]
        rfl
      refine pure_ (i := 16) (N := some 132) (v := ?_) (a' := ?_) #[true, true, true, true, true, true, true, true, true, true, true, true, true, true, true, true, true, false, false, false, false, false, false, false, false] rfl rfl (by kernel_rfl) (fun _ _ _ h => h) (Or.inl ⟨by rfl, ?_⟩) ?_ ?_
      rotate_left
      · intro w'
        go_simp
        with_reducible rfl
      rotate_left
      · simp only [Act.put, List.setIfInBounds_toArray, List.set_cons_zero, List.set_cons_succ, i64_w, i32_w, f1, f2, f3, g1, g2, g3, hz]
        rfl
      refine pure_ (i := 17) (N := some 133) (v := ?_) (a' := ?_) #[true, true, true, true, true, true, true, true, true, true, true, true, true, true, true, true, true, true, false, false, false, false, false, false, false] rfl rfl (by kernel_rfl) (fun _ _ _ h => h) (Or.inl ⟨by rfl, ?_⟩) ?_ ?_
      rotate_left
      · intro w'
        go_simp
        with_reducible rfl
      rotate_left
      · simp only [Act.put, List.setIfInBounds_toArray, List.set_cons_zero, List.set_cons_succ, i64_w, i32_w, f1, f2, f3, g1, g2, g3, hz]
        rfl
      refine pure_ (i := 18) (N := some 134) (v := ?_) (a' := ?_) #[true, true, true, true, true, true, true, true, true, true, true, true, true, true, true, true, true, true, true, false, false, false, false, false, false] rfl rfl (by kernel_rfl) (fun _ _ _ h => h) (Or.inl ⟨by rfl, ?_⟩) ?_ ?_
      rotate_left
      · intro w'
        go_simp
        with_reducible rfl
      rotate_left
      · simp only [Act.put, List.setIfInBounds_toArray, List.set_cons_zero, List.set_cons_succ, i64_w, i32_w, f1, f2, f3, g1, g2, g3, hz]
        rfl
      refine pure_ (i := 19) (N := some 135) (v := ?_) (a' := ?_) #[true, true, true, true, true, true, true, true, true, true, true, true, true, true, true, true, true, true, true, true, false, false, false, false, false] rfl rfl (by kernel_rfl) (fun _ _ _ h => h) (Or.inl ⟨by rfl, ?_⟩) ?_ ?_
      rotate_left
      · intro w'
        go_simp
        with_reducible rfl
      rotate_left
      · simp only [Act.put, List.setIfInBounds_toArray, List.set_cons_zero, List.set_cons_succ, i64_w, i32_w, f1, f2, f3, g1, g2, g3, hz]
        rfl
      refine last_ (i := 20) (N := none) #[true, true, true, true, true, true, true, true, true, true, true, true, true, true, true, true, true, true, true, true, true, false, false, false, false] rfl rfl (by kernel_rfl) (by decide) (fun K hK => ?_)
      refine skip_ (w1 := ?_) (by rfl) rfl ?_ ?_
      rotate_left
      · go_simp
        rfl
      refine hK.out _ _ ?_
      clear hK K
      refine pure_ (i := 21) (N := some 136) (v := ?_) (a' := ?_) #[true, true, true, true, true, true, true, true, true, true, true, true, true, true, true, true, true, true, true, true, true, true, false, false, false] rfl rfl (by kernel_rfl) (fun _ _ _ h => h) (Or.inl ⟨by rfl, ?_⟩) ?_ ?_
      rotate_left
      · intro w'
        go_simp
        with_reducible rfl
      rotate_left
      · simp only [Act.put, List.setIfInBounds_toArray, List.set_cons_zero, List.set_cons_succ, i64_w, i32_w, f1, f2, f3, g1, g2, g3, hz]
        rfl
      refine last_ (i := 22) (N := none) #[true, true, true, true, true, true, true, true, true, true, true, true, true, true, true, true, true, true, true, true, true, true, true, false, false] rfl rfl (by kernel_rfl) (by decide) (fun K hK => ?_)
      refine skip_ (w1 := ?_) (by rfl) rfl ?_ ?_
      rotate_left
      · go_simp
        rfl
      refine hK.out _ _ ?_
      clear hK K
      refine pure_ (i := 23) (N := some 137) (v := ?_) (a' := ?_) #[true, true, true, true, true, true, true, true, true, true, true, true, true, true, true, true, true, true, true, true, true, true, true, true, false] rfl rfl (by kernel_rfl) (fun _ _ _ h => h) (Or.inl ⟨by rfl, ?_⟩) ?_ ?_
      rotate_left
      · intro w'
        go_simp
        with_reducible rfl
      rotate_left
      · simp only [Act.put, List.setIfInBounds_toArray, List.set_cons_zero, List.set_cons_succ, i64_w, i32_w, f1, f2, f3, g1, g2, g3, hz]
        rfl
      refine last_ (i := 24) (N := none) #[true, true, true, true, true, true, true, true, true, true, true, true, true, true, true, true, true, true, true, true, true, true, true, true, true] rfl rfl (by kernel_rfl) (by decide) (fun K hK => ?_)
      refine skip_ (w1 := ?_) (by rfl) rfl ?_ ?_
      rotate_left
      · go_simp
        rfl
      refine hK.out _ _ ?_
      clear hK K
      refine done_ (by kernel_rfl) ?_
      clear f1 f2 f3 g1 g2 g3 t10 v10 t11 v11 t12 v12
      have P13 := Lib.hid (bkDw (bkFar (bkFar (bkFar P12.out (p := ⟨w9.heap.size, 10, none⟩) (by have := H9.out; simp; omega) (iv (lpR s.a10 (s.a11 * num / den) (s.a12 * num / den)).1)) (p := ⟨w9.heap.size, 11, none⟩) (by have := H9.out; simp; omega) (iv (lpR s.a10 (s.a11 * num / den) (s.a12 * num / den)).2.1)) (p := ⟨w9.heap.size, 12, none⟩) (by have := H9.out; simp; omega) (iv (lpR s.a10 (s.a11 * num / den) (s.a12 * num / den)).2.2)))
      have H13 := Lib.hid (bkDw (bkFar (bkFar (bkFar H12.out (p := ⟨w9.heap.size, 10, none⟩) (by have := H9.out; simp; omega) (iv (lpR s.a10 (s.a11 * num / den) (s.a12 * num / den)).1)) (p := ⟨w9.heap.size, 11, none⟩) (by have := H9.out; simp; omega) (iv (lpR s.a10 (s.a11 * num / den) (s.a12 * num / den)).2.1)) (p := ⟨w9.heap.size, 12, none⟩) (by have := H9.out; simp; omega) (iv (lpR s.a10 (s.a11 * num / den) (s.a12 * num / den)).2.2)))
      have T13 := Lib.hid (bkDw (bkPut (bkPut (bkPut T12.out 10 (iv (lpR s.a10 (s.a11 * num / den) (s.a12 * num / den)).1) (show _ = S.cs ⟨s.nm, s.a2, rt, s.a4, s.a5, s.a6, (lpR s.a7 (s.a8 * num / den) (s.a9 * num / den)).1, (lpR s.a7 (s.a8 * num / den) (s.a9 * num / den)).2.1, (lpR s.a7 (s.a8 * num / den) (s.a9 * num / den)).2.2, (lpR s.a10 (s.a11 * num / den) (s.a12 * num / den)).1, s.a11, s.a12⟩ (some ⟨g, 0, none⟩) j j from rfl)) 11 (iv (lpR s.a10 (s.a11 * num / den) (s.a12 * num / den)).2.1) (show _ = S.cs ⟨s.nm, s.a2, rt, s.a4, s.a5, s.a6, (lpR s.a7 (s.a8 * num / den) (s.a9 * num / den)).1, (lpR s.a7 (s.a8 * num / den) (s.a9 * num / den)).2.1, (lpR s.a7 (s.a8 * num / den) (s.a9 * num / den)).2.2, (lpR s.a10 (s.a11 * num / den) (s.a12 * num / den)).1, (lpR s.a10 (s.a11 * num / den) (s.a12 * num / den)).2.1, s.a12⟩ (some ⟨g, 0, none⟩) j j from rfl)) 12 (iv (lpR s.a10 (s.a11 * num / den) (s.a12 * num / den)).2.2) (show _ = S.cs ⟨s.nm, s.a2, rt, s.a4, s.a5, s.a6, (lpR s.a7 (s.a8 * num / den) (s.a9 * num / den)).1, (lpR s.a7 (s.a8 * num / den) (s.a9 * num / den)).2.1, (lpR s.a7 (s.a8 * num / den) (s.a9 * num / den)).2.2, (lpR s.a10 (s.a11 * num / den) (s.a12 * num / den)).1, (lpR s.a10 (s.a11 * num / den) (s.a12 * num / den)).2.1, (lpR s.a10 (s.a11 * num / den) (s.a12 * num / den)).2.2⟩ (some ⟨g, 0, none⟩) j j from rfl)))
      have Z13 := ((((Z12).setCell (p := ⟨w9.heap.size, 10, none⟩) (Nat.le_refl _) (iv (lpR s.a10 (s.a11 * num / den) (s.a12 * num / den)).1)).setCell (p := ⟨w9.heap.size, 11, none⟩) (Nat.le_refl _) (iv (lpR s.a10 (s.a11 * num / den) (s.a12 * num / den)).2.1)).setCell (p := ⟨w9.heap.size, 12, none⟩) (Nat.le_refl _) (iv (lpR s.a10 (s.a11 * num / den) (s.a12 * num / den)).2.2)).drew
      have B13 := ((((B12).setCell (p := ⟨w9.heap.size, 10, none⟩) (by have := H9.out; simp; omega) (iv (lpR s.a10 (s.a11 * num / den) (s.a12 * num / den)).1)).setCell (p := ⟨w9.heap.size, 11, none⟩) (by have := H9.out; simp; omega) (iv (lpR s.a10 (s.a11 * num / den) (s.a12 * num / den)).2.1)).setCell (p := ⟨w9.heap.size, 12, none⟩) (by have := H9.out; simp; omega) (iv (lpR s.a10 (s.a11 * num / den) (s.a12 * num / den)).2.2)).drew
      clear P12 H12 T12 Z12 B12
      generalize (((w12.setCell ⟨w9.heap.size, 10, none⟩ (iv (lpR s.a10 (s.a11 * num / den) (s.a12 * num / den)).1)).setCell ⟨w9.heap.size, 11, none⟩ (iv (lpR s.a10 (s.a11 * num / den) (s.a12 * num / den)).2.1)).setCell ⟨w9.heap.size, 12, none⟩ (iv (lpR s.a10 (s.a11 * num / den) (s.a12 * num / den)).2.2)).drew = w13 at *
      have hT : rsmS s num den = ⟨s.nm, s.a2, rt, s.a4, s.a5, s.a6, (lpR s.a7 (s.a8 * num / den) (s.a9 * num / den)).1, (lpR s.a7 (s.a8 * num / den) (s.a9 * num / den)).2.1, (lpR s.a7 (s.a8 * num / den) (s.a9 * num / den)).2.2, (lpR s.a10 (s.a11 * num / den) (s.a12 * num / den)).1, (lpR s.a10 (s.a11 * num / den) (s.a12 * num / den)).2.1, (lpR s.a10 (s.a11 * num / den) (s.a12 * num / den)).2.2⟩ := by unfold rsmS; rw [HRT.out]; rfl
      go_wp2_with (first
        | (refine wpList_load_row rfl 24 (.tmp 16) rfl (w9.heap.size) rfl 24 _ (0, 0) _ T13.out Try.underlying24 rfl (S.i24 _ _ _ _) ?_)
        | (refine wpList_store_row rfl 24 (.tmp 8) (.tmp 138) rfl (w.heap.size + 1) (S.cs ⟨s.nm, s.a2, rt, s.a4, s.a5, s.a6, (lpR s.a7 (s.a8 * num / den) (s.a9 * num / den)).1, (lpR s.a7 (s.a8 * num / den) (s.a9 * num / den)).2.1, (lpR s.a7 (s.a8 * num / den) (s.a9 * num / den)).2.2, (lpR s.a10 (s.a11 * num / den) (s.a12 * num / den)).1, (lpR s.a10 (s.a11 * num / den) (s.a12 * num / den)).2.1, (lpR s.a10 (s.a11 * num / den) (s.a12 * num / den)).2.2⟩ (some ⟨g, 0, none⟩) j j) rfl rfl 24 _ H13.out (S.i24 _ _ _ _) (S.sz S.zero _ none _ 0 0 _ _) (S.one _ _ _ _) ?_))
      refine bodyPost_ret (res_ct rfl _ _ (w.heap.size + 1) 24 _ (0, 0) _ rfl (setRow_heap _ _ _ _ _ _ H13.out) Try.underlying24 rfl (S.i24 _ _ _ _)) rfl ⟨some ⟨g, 0, none⟩, j, g, 0, by first | (rw [hT]; rfl) | rw [hT], (D9.out.later Z13).setRow (fun _ => by have := H9.out; omega) _, below_setRow B13 (by omega) _⟩
set_option maxHeartbeats 32000000 in
set_option maxRecDepth 100000 in
theorem rres5_16 (s : S) (A : Option Addr) (n c0 b o : Nat) (xs : Nat → Int) (num den : Int) (kind m : Nat) (hv : vS s n xs = true) (ha2 : s.a2 = 16) (hk : kind ≤ 4) (hr : 1 ≤ num ∧ num ≤ 10000) (hr2 : 1 ≤ den ∧ den ≤ 10000) (hm : (n : Int) * num / den = m) (hm4 : m ≤ 4096) (hn : n ≤ 9223372036854775807) (hc0 : n ≤ c0) (w : World) (hA : DataAt w A n b o xs) : GivesD 48 #[.agg (s.cs A n c0), iv num, iv den, iv kind] w (rsmS s num den) m (rsmF s n xs num den kind) 0 := by
  unfold GivesD
  have H0 := Lib.hid (show ((w.alloc (Obj.cells (s.cs A n c0) 24)).alloc (Obj.cells #[Value.string ⟨#[]⟩, Value.slice none 0 0, iv 0, iv 0, iv 0, iv 0, iv 0, iv 0, iv 0, iv 0, iv 0, iv 0, iv 0] 24)).heap[w.heap.size + 1]? = some (.cells (S.zero.cs none 0 0) 24 (0, 0)) from heap_alloc2_new w (Obj.cells (s.cs A n c0) 24) (Obj.cells #[Value.string ⟨#[]⟩, Value.slice none 0 0, iv 0, iv 0, iv 0, iv 0, iv 0, iv 0, iv 0, iv 0, iv 0, iv 0, iv 0] 24))
  have B0 : Below w.heap.size w ((w.alloc (Obj.cells (s.cs A n c0) 24)).alloc (Obj.cells #[Value.string ⟨#[]⟩, Value.slice none 0 0, iv 0, iv 0, iv 0, iv 0, iv 0, iv 0, iv 0, iv 0, iv 0, iv 0, iv 0] 24)) := ((Below.refl _ _).alloc (Nat.le_refl _) _).alloc (by simp) _
  have P0 := Lib.hid (show ((w.alloc (Obj.cells (s.cs A n c0) 24)).alloc (Obj.cells #[Value.string ⟨#[]⟩, Value.slice none 0 0, iv 0, iv 0, iv 0, iv 0, iv 0, iv 0, iv 0, iv 0, iv 0, iv 0, iv 0] 24)).heap[w.heap.size]? = some (.cells (s.cs A n c0) 24 (0, 0)) from heap_alloc2_old w _ _)
  have D0 := Lib.hid (hA.later B0)
  have VC := Lib.hid (show ∀ (W : World), DataAt W A n b o xs → Calls Try.prog 25 #[.agg (s.cs A n c0)] W fun e w' => e = .returned (.bool true) ∧ Below W.heap.size W w' from fun W h => by have := rvalid_any s A n c0 b o xs hn hc0 W h; rwa [hv] at this)
  obtain ⟨_, _, n4, _, _, _, l7, l10⟩ := vS_yes hv
  unfold LpOk at l7 l10
  have HN := Lib.hid n4
  have h6 := (vS_yes hv).2.2.2.2.2.1
  unfold RgOk at h6
  have I1 := Lib.hid fun (W : World) => rin_yes (kind : Int) 0 4 W (by omega) (by omega)
  have I2 := Lib.hid fun (W : World) => rin_yes num 1 10000 W (by omega) (by omega)
  have I3 := Lib.hid fun (W : World) => rin_yes den 1 10000 W (by omega) (by omega)
  have hn4 := (vS_yes hv).2.2.1
  have QQ := Lib.hid (quo_facts (a := (n : Int)) (num := num) (den := den) (A := 4096) (by omega) ⟨by omega, by omega⟩ hr hr2)
  rw [hm] at QQ
  have hz : (den = 0) = False := eq_false (by omega)
  have d1 : decide (4096 < (m : Int)) = false := decide_eq_false (by omega)
  have n1 : decide (4096 < m) = false := decide_eq_false (by omega)
  have l0 : (0 : Int) ≤ (m : Int) := by omega
  have hzn : (num = 0) = False := eq_false (by omega)
  have HM := Lib.hid hm4
  have HA2 := Lib.hid ha2
  have HD := Lib.hid hA
  have HBT := limit_hb hv
  have HBB := Lib.hid HBT
  obtain ⟨i0, hi, hz0, hz1, hz2⟩ := info_parts info3
  have RP := Lib.hid fun (j : Nat) (hj : j < m) => rs_place hr hr2 hm hm4 hj
  have AC := Lib.hid fun (j : Nat) (hj : j < m) (W : World) (hB : Below w.heap.size w W) => (show Calls Try.prog 86 #[.agg ((bareS s).cs A n c0), .agg #[iv (rsX num den j / 65536), iv (rsX num den j % 65536), .bool false, .bool false], iv kind, .bool false] W fun e w' => e = .returned (iv (rsV s n xs num den kind j)) ∧ Below W.heap.size W w' from by
    rw [← bare_snd]
    exact rsound_any kind hk (bareS s) A n c0 b o xs (rsC num den j) false (bare_valid hv) (okB_iff.2 (by
      have := rs_place hr hr2 hm hm4 hj
      unfold CurOk rsC
      rw [if_neg (show ¬ (false = true) by decide)]
      simp only
      omega)) rfl hn hc0 W (HD.out.later hB))
  have HV := Lib.hid fun (j : Nat) => rsV_bd hv num den kind j hk
  have RT := Lib.hid (quo_facts (a := s.a3) (num := num) (den := den) (A := 65535) (by omega) ⟨by omega, by omega⟩ hr hr2)
  have R8 := Lib.hid (quo_facts (a := s.a8) (num := num) (den := den) (A := 4096) (by omega) (lp_bd l7 hn4).1 hr hr2)
  have R9 := Lib.hid (quo_facts (a := s.a9) (num := num) (den := den) (A := 4096) (by omega) (lp_bd l7 hn4).2 hr hr2)
  have R11 := Lib.hid (quo_facts (a := s.a11) (num := num) (den := den) (A := 4096) (by omega) (lp_bd l10 hn4).1 hr hr2)
  have R12 := Lib.hid (quo_facts (a := s.a12) (num := num) (den := den) (A := 4096) (by omega) (lp_bd l10 hn4).2 hr hr2)
  clear hA hv l7 l10 h6 ha2 hk hr hr2 hm hm4 hn4 HBT
  go_enter Try.func48, Try.ntmps48
  go_upto_region 7 with (first
    | (refine wpList_load_row rfl 24 (.tmp 4) rfl (w.heap.size) rfl 24 _ (0, 0) _ P0.out Try.underlying24 rfl (S.i24 _ _ _ _) ?_)
    | (go_at_call 25; (with_reducible refine (VC.out _ D0.out).mono ?_); rintro e w1 ⟨rfl, hb1⟩; have P1 := Lib.hid (bkBelow P0.out hb1); have H1 := Lib.hid (bkBelow H0.out hb1); have D1 := Lib.hid (D0.out.later hb1); have B1 := bdT B0 B0.size hb1)
    | (go_at_call 90; (with_reducible refine (I1.out _).mono ?_); rintro e w2 ⟨rfl, rfl⟩)
    | (go_at_call 90; (with_reducible refine (I2.out _).mono ?_); rintro e w2 ⟨rfl, rfl⟩)
    | (go_at_call 90; (with_reducible refine (I3.out _).mono ?_); rintro e w2 ⟨rfl, rfl⟩))
  have HP := Lib.hid (bkLt P1.out)
  have HH := Lib.hid (bkLt H1.out)
  have p1 := (bkCell P1.out 1).trans (show _ = some (Value.slice A n c0) from rfl)
  obtain ⟨f1, f2, f3, _, _⟩ := QQ.out
  go_upto_region 10 with (fail)
  clear d1 n1 f1 f2 f3 p1 D1 P0 H0 D0 B0
  go_upto_region 11 with (first
    | (refine wpList_load_row rfl 24 (.tmp 4) rfl (w.heap.size) rfl 24 _ (0, 0) _ P1.out Try.underlying24 rfl (S.i24 _ _ _ _) ?_)
    | (refine wpList_store_row rfl 24 (.tmp 11) (.tmp 44) rfl (w1.heap.size) (s.cs A n c0) rfl rfl 24 _ (heap_alloc_new w1 (Obj.cells #[Value.string ⟨#[]⟩, Value.slice none 0 0, iv 0, iv 0, iv 0, iv 0, iv 0, iv 0, iv 0, iv 0, iv 0, iv 0, iv 0] 24)) (S.i24 _ _ _ _) (S.sz S.zero _ none _ 0 0 _ _) (S.one _ _ _ _) ?_; have K2 := below_setRow ((Below.refl w1.heap.size w1).alloc (Nat.le_refl _) (Obj.cells #[Value.string ⟨#[]⟩, Value.slice none 0 0, iv 0, iv 0, iv 0, iv 0, iv 0, iv 0, iv 0, iv 0, iv 0, iv 0, iv 0] 24)) (g := w1.heap.size) (Nat.le_refl _) (s.cs A n c0); have P2 := Lib.hid (bkBelow P1.out K2); have H2 := Lib.hid (bkBelow H1.out K2); have B2 := bdT B1 B1.size K2; have U2 := Lib.hid (setRow_heap _ _ _ (s.cs A n c0) _ _ (heap_alloc_new w1 (Obj.cells #[Value.string ⟨#[]⟩, Value.slice none 0 0, iv 0, iv 0, iv 0, iv 0, iv 0, iv 0, iv 0, iv 0, iv 0, iv 0, iv 0] 24))); clear P1 H1))
  have SZ : ((w1.alloc (Obj.cells #[Value.string ⟨#[]⟩, Value.slice none 0 0, iv 0, iv 0, iv 0, iv 0, iv 0, iv 0, iv 0, iv 0, iv 0, iv 0, iv 0] 24)).setRow w1.heap.size (s.cs A n c0)).heap.size = w1.heap.size + 1 := by simp
  generalize (w1.alloc (Obj.cells #[Value.string ⟨#[]⟩, Value.slice none 0 0, iv 0, iv 0, iv 0, iv 0, iv 0, iv 0, iv 0, iv 0, iv 0, iv 0, iv 0] 24)).setRow w1.heap.size (s.cs A n c0) = w2 at *
  have t7 := (bkCell U2.out 7).trans (show _ = some (iv s.a7) from rfl)
  have u7 := bkFrozen U2.out 7
  have t8 := (bkCell U2.out 8).trans (show _ = some (iv s.a8) from rfl)
  have u8 := bkFrozen U2.out 8
  have t9 := (bkCell U2.out 9).trans (show _ = some (iv s.a9) from rfl)
  have u9 := bkFrozen U2.out 9
  have t10 := (bkCell U2.out 10).trans (show _ = some (iv s.a10) from rfl)
  have u10 := bkFrozen U2.out 10
  have t11 := (bkCell U2.out 11).trans (show _ = some (iv s.a11) from rfl)
  have u11 := bkFrozen U2.out 11
  have t12 := (bkCell U2.out 12).trans (show _ = some (iv s.a12) from rfl)
  have u12 := bkFrozen U2.out 12
  go_upto_region 12 with (fail)
  have U3 := Lib.hid (show _ = some (Obj.cells ((bareS s).cs A n c0) 24 (0, 0)) from (bkPut (bkPut (bkPut (bkPut (bkPut (bkPut U2.out 7 (iv 0) (show _ = S.cs ⟨s.nm, s.a2, s.a3, s.a4, s.a5, s.a6, 0, s.a8, s.a9, s.a10, s.a11, s.a12⟩ A n c0 from rfl)) 8 (iv 0) (show _ = S.cs ⟨s.nm, s.a2, s.a3, s.a4, s.a5, s.a6, 0, 0, s.a9, s.a10, s.a11, s.a12⟩ A n c0 from rfl)) 9 (iv 0) (show _ = S.cs ⟨s.nm, s.a2, s.a3, s.a4, s.a5, s.a6, 0, 0, 0, s.a10, s.a11, s.a12⟩ A n c0 from rfl)) 10 (iv 0) (show _ = S.cs ⟨s.nm, s.a2, s.a3, s.a4, s.a5, s.a6, 0, 0, 0, 0, s.a11, s.a12⟩ A n c0 from rfl)) 11 (iv 0) (show _ = S.cs ⟨s.nm, s.a2, s.a3, s.a4, s.a5, s.a6, 0, 0, 0, 0, 0, s.a12⟩ A n c0 from rfl)) 12 (iv 0) (show _ = S.cs ⟨s.nm, s.a2, s.a3, s.a4, s.a5, s.a6, 0, 0, 0, 0, 0, 0⟩ A n c0 from rfl)))
  have P3 := Lib.hid (bkFar (bkFar (bkFar (bkFar (bkFar (bkFar P2.out (p := ⟨w1.heap.size, 7, none⟩) (by have := HP.out; simp; omega) (iv 0)) (p := ⟨w1.heap.size, 8, none⟩) (by have := HP.out; simp; omega) (iv 0)) (p := ⟨w1.heap.size, 9, none⟩) (by have := HP.out; simp; omega) (iv 0)) (p := ⟨w1.heap.size, 10, none⟩) (by have := HP.out; simp; omega) (iv 0)) (p := ⟨w1.heap.size, 11, none⟩) (by have := HP.out; simp; omega) (iv 0)) (p := ⟨w1.heap.size, 12, none⟩) (by have := HP.out; simp; omega) (iv 0))
  have H3 := Lib.hid (bkFar (bkFar (bkFar (bkFar (bkFar (bkFar H2.out (p := ⟨w1.heap.size, 7, none⟩) (by have := HH.out; simp; omega) (iv 0)) (p := ⟨w1.heap.size, 8, none⟩) (by have := HH.out; simp; omega) (iv 0)) (p := ⟨w1.heap.size, 9, none⟩) (by have := HH.out; simp; omega) (iv 0)) (p := ⟨w1.heap.size, 10, none⟩) (by have := HH.out; simp; omega) (iv 0)) (p := ⟨w1.heap.size, 11, none⟩) (by have := HH.out; simp; omega) (iv 0)) (p := ⟨w1.heap.size, 12, none⟩) (by have := HH.out; simp; omega) (iv 0))
  have B3 := ((((((B2.setCell (p := ⟨w1.heap.size, 7, none⟩) (Nat.le_of_lt HP.out) (iv 0)).setCell (p := ⟨w1.heap.size, 8, none⟩) (Nat.le_of_lt HP.out) (iv 0)).setCell (p := ⟨w1.heap.size, 9, none⟩) (Nat.le_of_lt HP.out) (iv 0)).setCell (p := ⟨w1.heap.size, 10, none⟩) (Nat.le_of_lt HP.out) (iv 0)).setCell (p := ⟨w1.heap.size, 11, none⟩) (Nat.le_of_lt HP.out) (iv 0)).setCell (p := ⟨w1.heap.size, 12, none⟩) (Nat.le_of_lt HP.out) (iv 0))
  clear t7 u7 t8 u8 t9 u9 t10 u10 t11 u11 t12 u12 U2 P2 H2 B2 SZ
  generalize ((((((w2.setCell ⟨w1.heap.size, 7, none⟩ (iv 0)).setCell ⟨w1.heap.size, 8, none⟩ (iv 0)).setCell ⟨w1.heap.size, 9, none⟩ (iv 0)).setCell ⟨w1.heap.size, 10, none⟩ (iv 0)).setCell ⟨w1.heap.size, 11, none⟩ (iv 0)).setCell ⟨w1.heap.size, 12, none⟩ (iv 0)) = w3 at *
  have HS := Lib.hid (show w1.heap.size < w3.heap.size from bkLt U3.out)
  go_upto_region 13 with (at_make; refine wpList_make_full _ rfl _ _ 22 rfl w3.heap.size 3 i0 (.int .i64 0) 1 Try.underlying22 hi hz0 hz1 .i64 .i64 _ _ m rfl rfl rfl rfl (by rw [hz2]; have := HM.out; omega) (by unfold maxLen; have := HM.out; omega) (Nat.le_refl _) ?_; intro w4 hown hgrow)
  have k4 : Below w3.heap.size w3 w4 := (Below.refl _ _).grown hgrow (Nat.le_refl _) (by simp)
  have P4 := Lib.hid (bkBelow P3.out k4)
  have H4 := Lib.hid (bkBelow H3.out k4)
  have U4 := Lib.hid (bkBelow U3.out k4)
  have O4 := Lib.hid hown
  have B4 := bdT B3 B3.size k4
  clear k4 hown hgrow P3 H3 U3 B3
  go_upto_region 14 with (fail)
  go_loopw [55] (fun v wr => ∃ (j : Nat) (F : Nat → Int), j ≤ m ∧ v = iv j ∧ (∀ i, i < j → F i = rsW s n xs num den kind i) ∧ wr.heap[w.heap.size]? = some (.cells (s.cs A n c0) 24 (0, 0)) ∧ wr.heap[w.heap.size + 1]? = some (.cells (S.zero.cs none 0 0) 24 (0, 0)) ∧ wr.heap[w1.heap.size]? = some (.cells ((bareS s).cs A n c0) 24 (0, 0)) ∧ wr.ownsRow w3.heap.size 3 1 (.slice (some ⟨w3.heap.size, 0, none⟩) m m) m (rw_ F m) ∧ Below w.heap.size w wr) (fun v _ => m - (intOf v).toNat)
  case atStart => exact ⟨0, fun _ => 0, by omega, rfl, fun i hi => by omega, P4.out, H4.out, U4.out, ownN O4.out (by rw [rw_zero]; first | rfl | (rw [Nat.mul_one]; exact toList_madeCells_one _ _)), B4⟩
  case round =>
    clear P4 H4 U4 O4 B4
    obtain ⟨j, F, hj, rfl, hF, hP, hH, hU, hO, hB⟩ := hrel
    have NF := Lib.hid hF
    have NP := Lib.hid hP
    have NH := Lib.hid hH
    have NU := Lib.hid hU
    have NO := Lib.hid hO
    have l3 : (0 : Int) ≤ (j : Int) := by omega
    clear hF hP hH hU hO
    by_cases hlt : j < m
    · have l4 : (j : Int) < (m : Int) := by omega
      have TQ := Lib.hid (AC.out j hlt wr hB)
      have RV := Lib.hid (HV.out j)
      obtain ⟨v, hv⟩ : ∃ v, rsV s n xs num den kind j = v := ⟨_, rfl⟩
      have HVV := Lib.hid hv
      rw [hv] at TQ RV
      clear hv
      obtain ⟨f1, f2, f3, f4, f5, f6, f7, f8, _, _, _, _⟩ := RP.out j hlt
      go_upto_region 18 with (first
        | (refine wpList_load_row rfl 24 (.tmp 11) rfl (w1.heap.size) rfl 24 _ (0, 0) _ NU.out Try.underlying24 rfl (S.i24 _ _ _ _) ?_)
        | (go_at_call 86; (with_reducible refine TQ.out.mono ?_); rintro e w7 ⟨rfl, hb7⟩; have P7 := Lib.hid (bkBelow NP.out hb7); have H7 := Lib.hid (bkBelow NH.out hb7); have U7 := Lib.hid (bkBelow NU.out hb7); have O7 := Lib.hid (ownBelow NO.out hb7); have B7 := bdT hB hB.size hb7))
      clear f1 f2 f3 f4 f5 f6 f7 f8
      have p2 := (bkCell P7.out 2).trans (show _ = some (iv s.a2) from rfl)
      rw [HA2.out] at p2
      have s4 : w7.cell? ⟨w3.heap.size, j, none⟩ = some (iv (F j)) := (O7.out.cellAt j (by omega)).trans (rw_at F m j hlt)
      have f4 := O7.out.frozenAt j
      go_upto_region 21 with (fail)
      have HW := Lib.hid (show v = rsW s n xs num den kind j from by unfold rsW; rw [HVV.out, if_neg (by rw [HA2.out]; decide)])
      have hs := HS.out
      have hp := HP.out
      have hh := HH.out
      have P8 := Lib.hid (bkFar P7.out (p := ⟨w3.heap.size, j, none⟩) (by simp; omega) (iv v))
      have H8 := Lib.hid (bkFar H7.out (p := ⟨w3.heap.size, j, none⟩) (by simp; omega) (iv v))
      have U8 := Lib.hid (bkFar U7.out (p := ⟨w3.heap.size, j, none⟩) (by simp; omega) (iv v))
      have O8 := Lib.hid (ownN (O7.out.stored j (iv v)).1 (rw_set F m j v))
      have B8 := B7.setCell (p := ⟨w3.heap.size, j, none⟩) (by simp; omega) (iv v)
      clear P7 H7 U7 O7 B7 p2 s4 f4 hs hp hh hb7
      go_wp2
      exact ⟨⟨j + 1, fun i => if i = j then v else F i, by omega, by go_num, fun i hi => by
        by_cases e : i = j
        · subst e; simp [HW.out]
        · simp [e]; exact NF.out i (by omega), P8.out, H8.out, U8.out, O8.out, B8⟩, by simp [intOf]; omega⟩
    · obtain rfl : j = m := by omega
      have OD := Lib.hid ((ownData NO.out).congr fun i hi => NF.out i hi)
      have MC := Lib.hid (made_any s A n c0 (some ⟨w3.heap.size, 0, none⟩) j j w3.heap.size 0 (rsW s n xs num den kind) (hb s.a2) HBB.out (by have := HM.out; omega) wr OD.out)
      go_upto_region 22 with (fail)
      go_upto_region 23 with (first
        | (refine wpList_load_row rfl 24 (.tmp 4) rfl (w.heap.size) rfl 24 _ (0, 0) _ NP.out Try.underlying24 rfl (S.i24 _ _ _ _) ?_)
        | (go_at_call 92; (with_reducible refine MC.out.mono ?_); rintro e w9 ⟨g, rfl, hdat, hg, hb9⟩; have P9 := Lib.hid (bkBelow NP.out hb9); have H9_ := Lib.hid (bkBelow NH.out hb9); have D9 := Lib.hid hdat; have B9 := bdT hB hB.size hb9; have G9 := Lib.hid (show wr.heap.size ≤ g from hg); clear hdat hg)
        | (refine wpList_store_row rfl 24 (.tmp 16) (.tmp 85) rfl (w9.heap.size) (s.cs (some ⟨g, 0, none⟩) j j) rfl rfl 24 _ (heap_alloc_new w9 (Obj.cells #[Value.string ⟨#[]⟩, Value.slice none 0 0, iv 0, iv 0, iv 0, iv 0, iv 0, iv 0, iv 0, iv 0, iv 0, iv 0, iv 0] 24)) (S.i24 _ _ _ _) (S.sz S.zero _ none _ 0 0 _ _) (S.one _ _ _ _) ?_))
      have k10 := below_setRow ((Below.refl w9.heap.size w9).alloc (Nat.le_refl _) (Obj.cells #[Value.string ⟨#[]⟩, Value.slice none 0 0, iv 0, iv 0, iv 0, iv 0, iv 0, iv 0, iv 0, iv 0, iv 0, iv 0, iv 0] 24)) (g := w9.heap.size) (Nat.le_refl _) (s.cs (some ⟨g, 0, none⟩) j j)
      have H9 := Lib.hid (show w.heap.size < w9.heap.size ∧ w.heap.size + 1 < w9.heap.size ∧ w.heap.size + 1 < g from ⟨bkLt P9.out, bkLt H9_.out, by have := bkLt NH.out; have := G9.out; omega⟩)
      have P10 := Lib.hid (bkBelow P9.out k10)
      have H10 := Lib.hid (bkBelow H9_.out k10)
      have T10 := Lib.hid (setRow_heap _ _ _ (s.cs (some ⟨g, 0, none⟩) j j) _ _ (heap_alloc_new w9 (Obj.cells #[Value.string ⟨#[]⟩, Value.slice none 0 0, iv 0, iv 0, iv 0, iv 0, iv 0, iv 0, iv 0, iv 0, iv 0, iv 0, iv 0] 24)))
      have Z10 := k10
      have B10 := bdT B9 B9.size k10
      clear k10 P9 H9_ B9 hb9
      generalize (w9.alloc (Obj.cells #[Value.string ⟨#[]⟩, Value.slice none 0 0, iv 0, iv 0, iv 0, iv 0, iv 0, iv 0, iv 0, iv 0, iv 0, iv 0, iv 0] 24)).setRow w9.heap.size (s.cs (some ⟨g, 0, none⟩) j j) = w10 at *
      have p3 := (bkCell P10.out 3).trans (show _ = some (iv s.a3) from rfl)
      have t3 := (bkCell T10.out 3).trans (show _ = some (iv s.a3) from rfl)
      have u3 := bkFrozen T10.out 3
      obtain ⟨f1, f2, f3, _, _⟩ := RT.out
      go_upto_region 24 with (go_at_call 93; (with_reducible refine (rate_any _ _).mono ?_); rintro e wz ⟨rfl, rfl⟩)
      clear f1 f2 f3
      obtain ⟨rt, hrt⟩ : ∃ rt, rateR (s.a3 * num / den) = rt := ⟨_, rfl⟩
      have HRT := Lib.hid hrt
      rw [hrt]
      clear hrt
      have P11 := Lib.hid (bkFar P10.out (p := ⟨w9.heap.size, 3, none⟩) (by have := H9.out; simp; omega) (iv rt))
      have H11 := Lib.hid (bkFar H10.out (p := ⟨w9.heap.size, 3, none⟩) (by have := H9.out; simp; omega) (iv rt))
      have T11 := Lib.hid (bkPut T10.out 3 (iv rt) (show _ = S.cs ⟨s.nm, s.a2, rt, s.a4, s.a5, s.a6, s.a7, s.a8, s.a9, s.a10, s.a11, s.a12⟩ (some ⟨g, 0, none⟩) j j from rfl))
      have Z11 := Z10.setCell (p := ⟨w9.heap.size, 3, none⟩) (Nat.le_refl _) (iv rt)
      have B11 := B10.setCell (p := ⟨w9.heap.size, 3, none⟩) (by have := H9.out; simp; omega) (iv rt)
      clear p3 t3 u3 P10 H10 T10 Z10 B10
      generalize w10.setCell ⟨w9.heap.size, 3, none⟩ (iv rt) = w11 at *
      obtain ⟨f1, f2, f3, _, _⟩ := R8.out
      obtain ⟨g1, g2, g3, _, _⟩ := R9.out
      have t7 := (bkCell T11.out 7).trans (show _ = some (iv s.a7) from rfl)
      have v7 := bkFrozen T11.out 7
      have t8 := (bkCell T11.out 8).trans (show _ = some (iv s.a8) from rfl)
      have v8 := bkFrozen T11.out 8
      have t9 := (bkCell T11.out 9).trans (show _ = some (iv s.a9) from rfl)
      have v9 := bkFrozen T11.out 9
      refine start_ (n := 25) (S := fun w' => w'.heap[w.heap.size]? = some (.cells (s.cs A n c0) 24 (0, 0)) ∧ w'.heap[w.heap.size + 1]? = some (.cells (S.zero.cs none 0 0) 24 (0, 0)) ∧ w'.heap[w9.heap.size]? = some (.cells (S.cs ⟨s.nm, s.a2, rt, s.a4, s.a5, s.a6, s.a7, s.a8, s.a9, s.a10, s.a11, s.a12⟩ (some ⟨g, 0, none⟩) j j) 24 (0, 0)) ∧ Below w9.heap.size w9 w' ∧ Below w.heap.size w w') (ds := [20, 22, 24]) #[false, false, false, false, false, false, false, false, false, false, false, false, false, false, false, false, false, false, false, false, false, false, false, false, false] (by kernel_rfl) rfl rfl ⟨P11.out, H11.out, T11.out, bdR Z11, B11.drew⟩ (fun hHeld => ?_)
      refine pure_ (i := 0) (N := some 95) (v := ?_) (a' := ?_) #[true, false, false, false, false, false, false, false, false, false, false, false, false, false, false, false, false, false, false, false, false, false, false, false, false] rfl rfl (by kernel_rfl) (fun _ _ _ h => h) (Or.inl ⟨by rfl, ?_⟩) ?_ ?_
      rotate_left
      · intro w'
        go_simp
        with_reducible rfl
      rotate_left
      · simp only [Act.put, List.setIfInBounds_toArray, List.set_cons_zero, List.set_cons_succ, i64_w, i32_w, f1, f2, f3, g1, g2, g3, hz]
        rfl
      refine pure_ (i := 2) (N := some 97) (v := ?_) (a' := ?_) #[true, false, true, false, false, false, false, false, false, false, false, false, false, false, false, false, false, false, false, false, false, false, false, false, false] rfl rfl (by kernel_rfl) (fun _ _ _ h => h) (Or.inl ⟨by rfl, ?_⟩) ?_ ?_
      rotate_left
      · intro w'
        go_simp
        with_reducible rfl
      rotate_left
      · simp only [Act.put, List.setIfInBounds_toArray, List.set_cons_zero, List.set_cons_succ, i64_w, i32_w, f1, f2, f3, g1, g2, g3, hz]
        rfl
      refine pure_ (i := 4) (N := some 99) (v := ?_) (a' := ?_) #[true, false, true, false, true, false, false, false, false, false, false, false, false, false, false, false, false, false, false, false, false, false, false, false, false] rfl rfl (by kernel_rfl) (fun _ _ _ h => h) (Or.inl ⟨by rfl, ?_⟩) ?_ ?_
      rotate_left
      · intro w'
        go_simp
        with_reducible rfl
      rotate_left
      · simp only [Act.put, List.setIfInBounds_toArray, List.set_cons_zero, List.set_cons_succ, i64_w, i32_w, f1, f2, f3, g1, g2, g3, hz]
        rfl
      refine pure_ (i := 6) (N := some 101) (v := ?_) (a' := ?_) #[true, false, true, false, true, false, true, false, false, false, false, false, false, false, false, false, false, false, false, false, false, false, false, false, false] rfl rfl (by kernel_rfl) (fun _ _ _ h => h) (Or.inl ⟨by rfl, ?_⟩) ?_ ?_
      rotate_left
      · intro w'
        go_simp
        with_reducible rfl
      rotate_left
      · simp only [Act.put, List.setIfInBounds_toArray, List.set_cons_zero, List.set_cons_succ, i64_w, i32_w, f1, f2, f3, g1, g2, g3, hz]
        rfl
      refine pure_ (i := 8) (N := some 103) (v := ?_) (a' := ?_) #[true, false, true, false, true, false, true, false, true, false, false, false, false, false, false, false, false, false, false, false, false, false, false, false, false] rfl rfl (by kernel_rfl) (fun _ _ _ h => h) (Or.inl ⟨by rfl, ?_⟩) ?_ ?_
      rotate_left
      · intro w'
        go_simp
        with_reducible rfl
      rotate_left
      · simp only [Act.put, List.setIfInBounds_toArray, List.set_cons_zero, List.set_cons_succ, i64_w, i32_w, f1, f2, f3, g1, g2, g3, hz]
        rfl
      refine pure_ (i := 10) (N := some 105) (v := ?_) (a' := ?_) #[true, false, true, false, true, false, true, false, true, false, true, false, false, false, false, false, false, false, false, false, false, false, false, false, false] rfl rfl (by kernel_rfl) (fun _ _ _ h => h) (Or.inl ⟨by rfl, ?_⟩) ?_ ?_
      rotate_left
      · intro w'
        go_simp
        with_reducible rfl
      rotate_left
      · simp only [Act.put, List.setIfInBounds_toArray, List.set_cons_zero, List.set_cons_succ, i64_w, i32_w, f1, f2, f3, g1, g2, g3, hz]
        rfl
      refine pure_ (i := 12) (N := some 107) (v := ?_) (a' := ?_) #[true, false, true, false, true, false, true, false, true, false, true, false, true, false, false, false, false, false, false, false, false, false, false, false, false] rfl rfl (by kernel_rfl) (fun _ _ _ h => h) (Or.inl ⟨by rfl, ?_⟩) ?_ ?_
      rotate_left
      · intro w'
        go_simp
        with_reducible rfl
      rotate_left
      · simp only [Act.put, List.setIfInBounds_toArray, List.set_cons_zero, List.set_cons_succ, i64_w, i32_w, f1, f2, f3, g1, g2, g3, hz]
        rfl
      refine take_ (i := 1) (N := some 96) (v := ?_) (a' := ?_) #[true, true, true, false, true, false, true, false, true, false, true, false, true, false, false, false, false, false, false, false, false, false, false, false, false] rfl rfl (by kernel_rfl) (fun _ _ _ h => h) (Or.inl ⟨by rfl, ?_⟩) hHeld ?_ ?_
      rotate_left
      · rintro w' ⟨s0, s1, s2, s3, s4⟩
        have zc := (bkCell s0 7).trans (show _ = some (iv s.a7) from rfl)
        clear s0 s1 s2 s3 s4
        go_simp
        with_reducible rfl
      rotate_left
      · simp only [Act.put, List.setIfInBounds_toArray, List.set_cons_zero, List.set_cons_succ, i64_w, i32_w, f1, f2, f3, g1, g2, g3, hz]
        rfl
      refine take_ (i := 3) (N := some 98) (v := ?_) (a' := ?_) #[true, true, true, true, true, false, true, false, true, false, true, false, true, false, false, false, false, false, false, false, false, false, false, false, false] rfl rfl (by kernel_rfl) (fun _ _ _ h => h) (Or.inl ⟨by rfl, ?_⟩) hHeld ?_ ?_
      rotate_left
      · rintro w' ⟨s0, s1, s2, s3, s4⟩
        have zc := (bkCell s0 8).trans (show _ = some (iv s.a8) from rfl)
        clear s0 s1 s2 s3 s4
        go_simp
        with_reducible rfl
      rotate_left
      · simp only [Act.put, List.setIfInBounds_toArray, List.set_cons_zero, List.set_cons_succ, i64_w, i32_w, f1, f2, f3, g1, g2, g3, hz]
        rfl
      refine pure_ (i := 5) (N := some 100) (v := ?_) (a' := ?_) #[true, true, true, true, true, true, true, false, true, false, true, false, true, false, false, false, false, false, false, false, false, false, false, false, false] rfl rfl (by kernel_rfl) (fun _ _ _ h => h) (Or.inl ⟨by rfl, ?_⟩) ?_ ?_
      rotate_left
      · intro w'
        go_simp
        with_reducible rfl
      rotate_left
      · simp only [Act.put, List.setIfInBounds_toArray, List.set_cons_zero, List.set_cons_succ, i64_w, i32_w, f1, f2, f3, g1, g2, g3, hz]
        rfl
      refine pure_ (i := 7) (N := some 102) (v := ?_) (a' := ?_) #[true, true, true, true, true, true, true, true, true, false, true, false, true, false, false, false, false, false, false, false, false, false, false, false, false] rfl rfl (by kernel_rfl) (fun _ _ _ h => h) (Or.inl ⟨by rfl, ?_⟩) ?_ ?_
      rotate_left
      · intro w'
        go_simp
        with_reducible rfl
      rotate_left
      · simp only [Act.put, List.setIfInBounds_toArray, List.set_cons_zero, List.set_cons_succ, i64_w, i32_w, f1, f2, f3, g1, g2, g3, hz]
        rfl
      refine take_ (i := 9) (N := some 104) (v := ?_) (a' := ?_) #[true, true, true, true, true, true, true, true, true, true, true, false, true, false, false, false, false, false, false, false, false, false, false, false, false] rfl rfl (by kernel_rfl) (fun _ _ _ h => h) (Or.inl ⟨by rfl, ?_⟩) hHeld ?_ ?_
      rotate_left
      · rintro w' ⟨s0, s1, s2, s3, s4⟩
        have zc := (bkCell s0 9).trans (show _ = some (iv s.a9) from rfl)
        clear s0 s1 s2 s3 s4
        go_simp
        with_reducible rfl
      rotate_left
      · simp only [Act.put, List.setIfInBounds_toArray, List.set_cons_zero, List.set_cons_succ, i64_w, i32_w, f1, f2, f3, g1, g2, g3, hz]
        rfl
      refine pure_ (i := 11) (N := some 106) (v := ?_) (a' := ?_) #[true, true, true, true, true, true, true, true, true, true, true, true, true, false, false, false, false, false, false, false, false, false, false, false, false] rfl rfl (by kernel_rfl) (fun _ _ _ h => h) (Or.inl ⟨by rfl, ?_⟩) ?_ ?_
      rotate_left
      · intro w'
        go_simp
        with_reducible rfl
      rotate_left
      · simp only [Act.put, List.setIfInBounds_toArray, List.set_cons_zero, List.set_cons_succ, i64_w, i32_w, f1, f2, f3, g1, g2, g3, hz]
        rfl
      refine pure_ (i := 13) (N := some 108) (v := ?_) (a' := ?_) #[true, true, true, true, true, true, true, true, true, true, true, true, true, true, false, false, false, false, false, false, false, false, false, false, false] rfl rfl (by kernel_rfl) (fun _ _ _ h => h) (Or.inl ⟨by rfl, ?_⟩) ?_ ?_
      rotate_left
      · intro w'
        go_simp
        with_reducible rfl
      rotate_left
      · simp only [Act.put, List.setIfInBounds_toArray, List.set_cons_zero, List.set_cons_succ, i64_w, i32_w, f1, f2, f3, g1, g2, g3, hz]
        rfl
      refine one_ (i := 14) (N := some 109) #[true, true, true, true, true, true, true, true, true, true, true, true, true, true, true, false, false, false, false, false, false, false, false, false, false] rfl rfl (by kernel_rfl) (by decide) (fun K hK => ?_)
      obtain ⟨s0, s1, s2, s3, s4⟩ := hHeld
      refine goes_ Try.func94 (by kernel_rfl) rfl #[iv s.a7, iv (s.a8 * num / den), iv (s.a9 * num / den)] (by rfl) rfl rfl (by simp only [List.map_toArray, List.map_cons, List.map_nil]; rfl) ?_
      with_reducible refine (lp_any _ _ _ _).mono ?_
      rintro e wx ⟨rfl, rfl⟩
      refine ⟨_, rfl, ?_⟩
      refine hK.out _ _ ⟨s0, s1, s2, s3, s4⟩ (fun hHeld => ?_)
      clear hK K
      refine norm_ (a' := ?_) ?_ ?_
      rotate_left
      · show Act.put _ (some 109) _ = _
        simp only [Act.put, List.setIfInBounds_toArray, List.set_cons_zero, List.set_cons_succ, i64_w, i32_w, f1, f2, f3, g1, g2, g3, hz]
        rfl
      refine pure_ (i := 15) (N := some 94) (v := ?_) (a' := ?_) #[true, true, true, true, true, true, true, true, true, true, true, true, true, true, true, true, false, false, false, false, false, false, false, false, false] rfl rfl (by kernel_rfl) (fun _ _ _ h => h) (Or.inl ⟨by rfl, ?_⟩) ?_ ?_
      rotate_left
      · intro w'
        go_simp
        with_reducible rfl
      rotate_left
      · simp only [Act.put, List.setIfInBounds_toArray, List.set_cons_zero, List.set_cons_succ, i64_w, i32_w, f1, f2, f3, g1, g2, g3, hz]
        rfl
      refine pure_ (i := 16) (N := some 110) (v := ?_) (a' := ?_) #[true, true, true, true, true, true, true, true, true, true, true, true, true, true, true, true, true, false, false, false, false, false, false, false, false] rfl rfl (by kernel_rfl) (fun _ _ _ h => h) (Or.inl ⟨by rfl, ?_⟩) ?_ ?_
      rotate_left
      · intro w'
        go_simp
        with_reducible rfl
      rotate_left
      · simp only [Act.put, List.setIfInBounds_toArray, List.set_cons_zero, List.set_cons_succ, i64_w, i32_w, f1, f2, f3, g1, g2, g3, hz]
        rfl
      refine pure_ (i := 17) (N := some 111) (v := ?_) (a' := ?_) #[true, true, true, true, true, true, true, true, true, true, true, true, true, true, true, true, true, true, false, false, false, false, false, false, false] rfl rfl (by kernel_rfl) (fun _ _ _ h => h) (Or.inl ⟨by rfl, ?_⟩) ?_ ?_
      rotate_left
      · intro w'
        go_simp
        with_reducible rfl
      rotate_left
      · simp only [Act.put, List.setIfInBounds_toArray, List.set_cons_zero, List.set_cons_succ, i64_w, i32_w, f1, f2, f3, g1, g2, g3, hz]
        rfl
      refine pure_ (i := 18) (N := some 112) (v := ?_) (a' := ?_) #[true, true, true, true, true, true, true, true, true, true, true, true, true, true, true, true, true, true, true, false, false, false, false, false, false] rfl rfl (by kernel_rfl) (fun _ _ _ h => h) (Or.inl ⟨by rfl, ?_⟩) ?_ ?_
      rotate_left
      · intro w'
        go_simp
        with_reducible rfl
      rotate_left
      · simp only [Act.put, List.setIfInBounds_toArray, List.set_cons_zero, List.set_cons_succ, i64_w, i32_w, f1, f2, f3, g1, g2, g3, hz]
        rfl
      refine pure_ (i := 19) (N := some 113) (v := ?_) (a' := ?_) #[true, true, true, true, true, true, true, true, true, true, true, true, true, true, true, true, true, true, true, true, false, false, false, false, false] rfl rfl (by kernel_rfl) (fun _ _ _ h => h) (Or.inl ⟨by rfl, ?_⟩) ?_ ?_
      rotate_left
      · intro w'
        go_simp
        with_reducible rfl
      rotate_left
      · simp only [Act.put, List.setIfInBounds_toArray, List.set_cons_zero, List.set_cons_succ, i64_w, i32_w, f1, f2, f3, g1, g2, g3, hz]
        rfl
      refine last_ (i := 20) (N := none) #[true, true, true, true, true, true, true, true, true, true, true, true, true, true, true, true, true, true, true, true, true, false, false, false, false] rfl rfl (by kernel_rfl) (by decide) (fun K hK => ?_)
      refine skip_ (w1 := ?_) (by rfl) rfl ?_ ?_
      rotate_left
      · go_simp
        rfl
      refine hK.out _ _ ?_
      clear hK K
      refine pure_ (i := 21) (N := some 114) (v := ?_) (a' := ?_) #[true, true, true, true, true, true, true, true, true, true, true, true, true, true, true, true, true, true, true, true, true, true, false, false, false] rfl rfl (by kernel_rfl) (fun _ _ _ h => h) (Or.inl ⟨by rfl, ?_⟩) ?_ ?_
      rotate_left
      · intro w'
        go_simp
        with_reducible rfl
      rotate_left
      · simp only [Act.put, List.setIfInBounds_toArray, List.set_cons_zero, List.set_cons_succ, i64_w, i32_w, f1, f2, f3, g1, g2, g3, hz]
        rfl
      refine last_ (i := 22) (N := none) #[true, true, true, true, true, true, true, true, true, true, true, true, true, true, true, true, true, true, true, true, true, true, true, false, false] rfl rfl (by kernel_rfl) (by decide) (fun K hK => ?_)
      refine skip_ (w1 := ?_) (by rfl) rfl ?_ ?_
      rotate_left
      · go_simp
        rfl
      refine hK.out _ _ ?_
      clear hK K
      refine pure_ (i := 23) (N := some 115) (v := ?_) (a' := ?_) #[true, true, true, true, true, true, true, true, true, true, true, true, true, true, true, true, true, true, true, true, true, true, true, true, false] rfl rfl (by kernel_rfl) (fun _ _ _ h => h) (Or.inl ⟨by rfl, ?_⟩) ?_ ?_
      rotate_left
      · intro w'
        go_simp
        with_reducible rfl
      rotate_left
      · simp only [Act.put, List.setIfInBounds_toArray, List.set_cons_zero, List.set_cons_succ, i64_w, i32_w, f1, f2, f3, g1, g2, g3, hz]
        rfl
      refine last_ (i := 24) (N := none) #[true, true, true, true, true, true, true, true, true, true, true, true, true, true, true, true, true, true, true, true, true, true, true, true, true] rfl rfl (by kernel_rfl) (by decide) (fun K hK => ?_)
      refine skip_ (w1 := ?_) (by rfl) rfl ?_ ?_
      rotate_left
      · go_simp
        rfl
      refine hK.out _ _ ?_
      clear hK K
      refine done_ (by kernel_rfl) ?_
      clear f1 f2 f3 g1 g2 g3 t7 v7 t8 v8 t9 v9
      have P12 := Lib.hid (bkDw (bkFar (bkFar (bkFar P11.out (p := ⟨w9.heap.size, 7, none⟩) (by have := H9.out; simp; omega) (iv (lpR s.a7 (s.a8 * num / den) (s.a9 * num / den)).1)) (p := ⟨w9.heap.size, 8, none⟩) (by have := H9.out; simp; omega) (iv (lpR s.a7 (s.a8 * num / den) (s.a9 * num / den)).2.1)) (p := ⟨w9.heap.size, 9, none⟩) (by have := H9.out; simp; omega) (iv (lpR s.a7 (s.a8 * num / den) (s.a9 * num / den)).2.2)))
      have H12 := Lib.hid (bkDw (bkFar (bkFar (bkFar H11.out (p := ⟨w9.heap.size, 7, none⟩) (by have := H9.out; simp; omega) (iv (lpR s.a7 (s.a8 * num / den) (s.a9 * num / den)).1)) (p := ⟨w9.heap.size, 8, none⟩) (by have := H9.out; simp; omega) (iv (lpR s.a7 (s.a8 * num / den) (s.a9 * num / den)).2.1)) (p := ⟨w9.heap.size, 9, none⟩) (by have := H9.out; simp; omega) (iv (lpR s.a7 (s.a8 * num / den) (s.a9 * num / den)).2.2)))
      have T12 := Lib.hid (bkDw (bkPut (bkPut (bkPut T11.out 7 (iv (lpR s.a7 (s.a8 * num / den) (s.a9 * num / den)).1) (show _ = S.cs ⟨s.nm, s.a2, rt, s.a4, s.a5, s.a6, (lpR s.a7 (s.a8 * num / den) (s.a9 * num / den)).1, s.a8, s.a9, s.a10, s.a11, s.a12⟩ (some ⟨g, 0, none⟩) j j from rfl)) 8 (iv (lpR s.a7 (s.a8 * num / den) (s.a9 * num / den)).2.1) (show _ = S.cs ⟨s.nm, s.a2, rt, s.a4, s.a5, s.a6, (lpR s.a7 (s.a8 * num / den) (s.a9 * num / den)).1, (lpR s.a7 (s.a8 * num / den) (s.a9 * num / den)).2.1, s.a9, s.a10, s.a11, s.a12⟩ (some ⟨g, 0, none⟩) j j from rfl)) 9 (iv (lpR s.a7 (s.a8 * num / den) (s.a9 * num / den)).2.2) (show _ = S.cs ⟨s.nm, s.a2, rt, s.a4, s.a5, s.a6, (lpR s.a7 (s.a8 * num / den) (s.a9 * num / den)).1, (lpR s.a7 (s.a8 * num / den) (s.a9 * num / den)).2.1, (lpR s.a7 (s.a8 * num / den) (s.a9 * num / den)).2.2, s.a10, s.a11, s.a12⟩ (some ⟨g, 0, none⟩) j j from rfl)))
      have Z12 := ((((Z11).setCell (p := ⟨w9.heap.size, 7, none⟩) (Nat.le_refl _) (iv (lpR s.a7 (s.a8 * num / den) (s.a9 * num / den)).1)).setCell (p := ⟨w9.heap.size, 8, none⟩) (Nat.le_refl _) (iv (lpR s.a7 (s.a8 * num / den) (s.a9 * num / den)).2.1)).setCell (p := ⟨w9.heap.size, 9, none⟩) (Nat.le_refl _) (iv (lpR s.a7 (s.a8 * num / den) (s.a9 * num / den)).2.2)).drew
      have B12 := ((((B11).setCell (p := ⟨w9.heap.size, 7, none⟩) (by have := H9.out; simp; omega) (iv (lpR s.a7 (s.a8 * num / den) (s.a9 * num / den)).1)).setCell (p := ⟨w9.heap.size, 8, none⟩) (by have := H9.out; simp; omega) (iv (lpR s.a7 (s.a8 * num / den) (s.a9 * num / den)).2.1)).setCell (p := ⟨w9.heap.size, 9, none⟩) (by have := H9.out; simp; omega) (iv (lpR s.a7 (s.a8 * num / den) (s.a9 * num / den)).2.2)).drew
      clear P11 H11 T11 Z11 B11
      generalize (((w11.setCell ⟨w9.heap.size, 7, none⟩ (iv (lpR s.a7 (s.a8 * num / den) (s.a9 * num / den)).1)).setCell ⟨w9.heap.size, 8, none⟩ (iv (lpR s.a7 (s.a8 * num / den) (s.a9 * num / den)).2.1)).setCell ⟨w9.heap.size, 9, none⟩ (iv (lpR s.a7 (s.a8 * num / den) (s.a9 * num / den)).2.2)).drew = w12 at *
      go_upto_region 25 with (fail)
      obtain ⟨f1, f2, f3, _, _⟩ := R11.out
      obtain ⟨g1, g2, g3, _, _⟩ := R12.out
      have t10 := (bkCell T12.out 10).trans (show _ = some (iv s.a10) from rfl)
      have v10 := bkFrozen T12.out 10
      have t11 := (bkCell T12.out 11).trans (show _ = some (iv s.a11) from rfl)
      have v11 := bkFrozen T12.out 11
      have t12 := (bkCell T12.out 12).trans (show _ = some (iv s.a12) from rfl)
      have v12 := bkFrozen T12.out 12
      refine start_ (n := 25) (S := fun w' => w'.heap[w.heap.size]? = some (.cells (s.cs A n c0) 24 (0, 0)) ∧ w'.heap[w.heap.size + 1]? = some (.cells (S.zero.cs none 0 0) 24 (0, 0)) ∧ w'.heap[w9.heap.size]? = some (.cells (S.cs ⟨s.nm, s.a2, rt, s.a4, s.a5, s.a6, (lpR s.a7 (s.a8 * num / den) (s.a9 * num / den)).1, (lpR s.a7 (s.a8 * num / den) (s.a9 * num / den)).2.1, (lpR s.a7 (s.a8 * num / den) (s.a9 * num / den)).2.2, s.a10, s.a11, s.a12⟩ (some ⟨g, 0, none⟩) j j) 24 (0, 0)) ∧ Below w9.heap.size w9 w' ∧ Below w.heap.size w w') (ds := [20, 22, 24]) #[false, false, false, false, false, false, false, false, false, false, false, false, false, false, false, false, false, false, false, false, false, false, false, false, false] (by kernel_rfl) rfl rfl ⟨P12.out, H12.out, T12.out, bdR Z12, B12.drew⟩ (fun hHeld => ?_)
      refine pure_ (i := 0) (N := some 117) (v := ?_) (a' := ?_) #[true, false, false, false, false, false, false, false, false, false, false, false, false, false, false, false, false, false, false, false, false, false, false, false, false] rfl rfl (by kernel_rfl) (fun _ _ _ h => h) (Or.inl ⟨by rfl, ?_⟩) ?_ ?_
      rotate_left
      · intro w'
        go_simp
        with_reducible rfl
      rotate_left
      · simp only [Act.put, List.setIfInBounds_toArray, List.set_cons_zero, List.set_cons_succ, i64_w, i32_w, f1, f2, f3, g1, g2, g3, hz]
        rfl
      refine pure_ (i := 2) (N := some 119) (v := ?_) (a' := ?_) #[true, false, true, false, false, false, false, false, false, false, false, false, false, false, false, false, false, false, false, false, false, false, false, false, false] rfl rfl (by kernel_rfl) (fun _ _ _ h => h) (Or.inl ⟨by rfl, ?_⟩) ?_ ?_
      rotate_left
      · intro w'
        go_simp
        with_reducible rfl
      rotate_left
      · simp only [Act.put, List.setIfInBounds_toArray, List.set_cons_zero, List.set_cons_succ, i64_w, i32_w, f1, f2, f3, g1, g2, g3, hz]
        rfl
      refine pure_ (i := 4) (N := some 121) (v := ?_) (a' := ?_) #[true, false, true, false, true, false, false, false, false, false, false, false, false, false, false, false, false, false, false, false, false, false, false, false, false] rfl rfl (by kernel_rfl) (fun _ _ _ h => h) (Or.inl ⟨by rfl, ?_⟩) ?_ ?_
      rotate_left
      · intro w'
        go_simp
        with_reducible rfl
      rotate_left
      · simp only [Act.put, List.setIfInBounds_toArray, List.set_cons_zero, List.set_cons_succ, i64_w, i32_w, f1, f2, f3, g1, g2, g3, hz]
        rfl
      refine pure_ (i := 6) (N := some 123) (v := ?_) (a' := ?_) #[true, false, true, false, true, false, true, false, false, false, false, false, false, false, false, false, false, false, false, false, false, false, false, false, false] rfl rfl (by kernel_rfl) (fun _ _ _ h => h) (Or.inl ⟨by rfl, ?_⟩) ?_ ?_
      rotate_left
      · intro w'
        go_simp
        with_reducible rfl
      rotate_left
      · simp only [Act.put, List.setIfInBounds_toArray, List.set_cons_zero, List.set_cons_succ, i64_w, i32_w, f1, f2, f3, g1, g2, g3, hz]
        rfl
      refine pure_ (i := 8) (N := some 125) (v := ?_) (a' := ?_) #[true, false, true, false, true, false, true, false, true, false, false, false, false, false, false, false, false, false, false, false, false, false, false, false, false] rfl rfl (by kernel_rfl) (fun _ _ _ h => h) (Or.inl ⟨by rfl, ?_⟩) ?_ ?_
      rotate_left
      · intro w'
        go_simp
        with_reducible rfl
      rotate_left
      · simp only [Act.put, List.setIfInBounds_toArray, List.set_cons_zero, List.set_cons_succ, i64_w, i32_w, f1, f2, f3, g1, g2, g3, hz]
        rfl
      refine pure_ (i := 10) (N := some 127) (v := ?_) (a' := ?_) #[true, false, true, false, true, false, true, false, true, false, true, false, false, false, false, false, false, false, false, false, false, false, false, false, false] rfl rfl (by kernel_rfl) (fun _ _ _ h => h) (Or.inl ⟨by rfl, ?_⟩) ?_ ?_
      rotate_left
      · intro w'
        go_simp
        with_reducible rfl
      rotate_left
      · simp only [Act.put, List.setIfInBounds_toArray, List.set_cons_zero, List.set_cons_succ, i64_w, i32_w, f1, f2, f3, g1, g2, g3, hz]
        rfl
      refine pure_ (i := 12) (N := some 129) (v := ?_) (a' := ?_) #[true, false, true, false, true, false, true, false, true, false, true, false, true, false, false, false, false, false, false, false, false, false, false, false, false] rfl rfl (by kernel_rfl) (fun _ _ _ h => h) (Or.inl ⟨by rfl, ?_⟩) ?_ ?_
      rotate_left
      · intro w'
        go_simp
        with_reducible rfl
      rotate_left
      · simp only [Act.put, List.setIfInBounds_toArray, List.set_cons_zero, List.set_cons_succ, i64_w, i32_w, f1, f2, f3, g1, g2, g3, hz]
        rfl
      refine take_ (i := 1) (N := some 118) (v := ?_) (a' := ?_) #[true, true, true, false, true, false, true, false, true, false, true, false, true, false, false, false, false, false, false, false, false, false, false, false, false] rfl rfl (by kernel_rfl) (fun _ _ _ h => h) (Or.inl ⟨by rfl, ?_⟩) hHeld ?_ ?_
      rotate_left
      · rintro w' ⟨s0, s1, s2, s3, s4⟩
        have zc := (bkCell s0 10).trans (show _ = some (iv s.a10) from rfl)
        clear s0 s1 s2 s3 s4
        go_simp
        with_reducible rfl
      rotate_left
      · simp only [Act.put, List.setIfInBounds_toArray, List.set_cons_zero, List.set_cons_succ, i64_w, i32_w, f1, f2, f3, g1, g2, g3, hz]
        rfl
      refine take_ (i := 3) (N := some 120) (v := ?_) (a' := ?_) #[true, true, true, true, true, false, true, false, true, false, true, false, true, false, false, false, false, false, false, false, false, false, false, false, false] rfl rfl (by kernel_rfl) (fun _ _ _ h => h) (Or.inl ⟨by rfl, ?_⟩) hHeld ?_ ?_
      rotate_left
      · rintro w' ⟨s0, s1, s2, s3, s4⟩
        have zc := (bkCell s0 11).trans (show _ = some (iv s.a11) from rfl)
        clear s0 s1 s2 s3 s4
        go_simp
        with_reducible rfl
      rotate_left
      · simp only [Act.put, List.setIfInBounds_toArray, List.set_cons_zero, List.set_cons_succ, i64_w, i32_w, f1, f2, f3, g1, g2, g3, hz]
        rfl
      refine pure_ (i := 5) (N := some 122) (v := ?_) (a' := ?_) #[true, true, true, true, true, true, true, false, true, false, true, false, true, false, false, false, false, false, false, false, false, false, false, false, false] rfl rfl (by kernel_rfl) (fun _ _ _ h => h) (Or.inl ⟨by rfl, ?_⟩) ?_ ?_
      rotate_left
      · intro w'
        go_simp
        with_reducible rfl
      rotate_left
      · simp only [Act.put, List.setIfInBounds_toArray, List.set_cons_zero, List.set_cons_succ, i64_w, i32_w, f1, f2, f3, g1, g2, g3, hz]
        rfl
      refine pure_ (i := 7) (N := some 124) (v := ?_) (a' := ?_) #[true, true, true, true, true, true, true, true, true, false, true, false, true, false, false, false, false, false, false, false, false, false, false, false, false] rfl rfl (by kernel_rfl) (fun _ _ _ h => h) (Or.inl ⟨by rfl, ?_⟩) ?_ ?_
      rotate_left
      · intro w'
        go_simp
        with_reducible rfl
      rotate_left
      · simp only [Act.put, List.setIfInBounds_toArray, List.set_cons_zero, List.set_cons_succ, i64_w, i32_w, f1, f2, f3, g1, g2, g3, hz]
        rfl
      refine take_ (i := 9) (N := some 126) (v := ?_) (a' := ?_) #[true, true, true, true, true, true, true, true, true, true, true, false, true, false, false, false, false, false, false, false, false, false, false, false, false] rfl rfl (by kernel_rfl) (fun _ _ _ h => h) (Or.inl ⟨by rfl, ?_⟩) hHeld ?_ ?_
      rotate_left
      · rintro w' ⟨s0, s1, s2, s3, s4⟩
        have zc := (bkCell s0 12).trans (show _ = some (iv s.a12) from rfl)
        clear s0 s1 s2 s3 s4
        go_simp
        with_reducible rfl
      rotate_left
      · simp only [Act.put, List.setIfInBounds_toArray, List.set_cons_zero, List.set_cons_succ, i64_w, i32_w, f1, f2, f3, g1, g2, g3, hz]
        rfl
      refine pure_ (i := 11) (N := some 128) (v := ?_) (a' := ?_) #[true, true, true, true, true, true, true, true, true, true, true, true, true, false, false, false, false, false, false, false, false, false, false, false, false] rfl rfl (by kernel_rfl) (fun _ _ _ h => h) (Or.inl ⟨by rfl, ?_⟩) ?_ ?_
      rotate_left
      · intro w'
        go_simp
        with_reducible rfl
      rotate_left
      · simp only [Act.put, List.setIfInBounds_toArray, List.set_cons_zero, List.set_cons_succ, i64_w, i32_w, f1, f2, f3, g1, g2, g3, hz]
        rfl
      refine pure_ (i := 13) (N := some 130) (v := ?_) (a' := ?_) #[true, true, true, true, true, true, true, true, true, true, true, true, true, true, false, false, false, false, false, false, false, false, false, false, false] rfl rfl (by kernel_rfl) (fun _ _ _ h => h) (Or.inl ⟨by rfl, ?_⟩) ?_ ?_
      rotate_left
      · intro w'
        go_simp
        with_reducible rfl
      rotate_left
      · simp only [Act.put, List.setIfInBounds_toArray, List.set_cons_zero, List.set_cons_succ, i64_w, i32_w, f1, f2, f3, g1, g2, g3, hz]
        rfl
      refine one_ (i := 14) (N := some 131) #[true, true, true, true, true, true, true, true, true, true, true, true, true, true, true, false, false, false, false, false, false, false, false, false, false] rfl rfl (by kernel_rfl) (by decide) (fun K hK => ?_)
      obtain ⟨s0, s1, s2, s3, s4⟩ := hHeld
      refine goes_ Try.func94 (by kernel_rfl) rfl #[iv s.a10, iv (s.a11 * num / den), iv (s.a12 * num / den)] (by rfl) rfl rfl (by simp only [List.map_toArray, List.map_cons, List.map_nil]; rfl) ?_
      with_reducible refine (lp_any _ _ _ _).mono ?_
      rintro e wx ⟨rfl, rfl⟩
      refine ⟨_, rfl, ?_⟩
      refine hK.out _ _ ⟨s0, s1, s2, s3, s4⟩ (fun hHeld => ?_)
      clear hK K
      refine norm_ (a' := ?_) ?_ ?_
      rotate_left
      · show Act.put _ (some 131) _ = _
        simp only [Act.put, List.setIfInBounds_toArray, List.set_cons_zero, List.set_cons_succ, i64_w, i32_w, f1, f2, f3, g1, g2, g3, hz]
        rfl
      refine pure_ (i := 15) (N := some 116) (v := ?_) (a' := ?_) #[true, true, true, true, true, true, true, true, true, true, true, true, true, true, true, true, false, false, false, false, false, false, false, false, false] rfl rfl (by kernel_rfl) (fun _ _ _ h => h) (Or.inl ⟨by rfl, ?_⟩) ?_ ?_
      rotate_left
      · intro w'
        go_simp
        with_reducible rfl
      rotate_left
      · simp only [Act.put, List.setIfInBounds_toArray, List.set_cons_zero, List.set_cons_succ, i64_w, i32_w, f1, f2, f3, g1, g2, g3, hz]
        rfl
      refine pure_ (i := 16) (N := some 132) (v := ?_) (a' := ?_) #[true, true, true, true, true, true, true, true, true, true, true, true, true, true, true, true, true, false, false, false, false, false, false, false, false] rfl rfl (by kernel_rfl) (fun _ _ _ h => h) (Or.inl ⟨by rfl, ?_⟩) ?_ ?_
      rotate_left
      · intro w'
        go_simp
        with_reducible rfl
      rotate_left
      · simp only [Act.put, List.setIfInBounds_toArray, List.set_cons_zero, List.set_cons_succ, i64_w, i32_w, f1, f2, f3, g1, g2, g3, hz]
        rfl
      refine pure_ (i := 17) (N := some 133) (v := ?_) (a' := ?_) #[true, true, true, true, true, true, true, true, true, true, true, true, true, true, true, true, true, true, false, false, false, false, false, false, false] rfl rfl (by kernel_rfl) (fun _ _ _ h => h) (Or.inl ⟨by rfl, ?_⟩) ?_ ?_
      rotate_left
      · intro w'
        go_simp
        with_reducible rfl
      rotate_left
      · simp only [Act.put, List.setIfInBounds_toArray, List.set_cons_zero, List.set_cons_succ, i64_w, i32_w, f1, f2, f3, g1, g2, g3, hz]
        rfl
      refine pure_ (i := 18) (N := some 134) (v := ?_) (a' := ?_) #[true, true, true, true, true, true, true, true, true, true, true, true, true, true, true, true, true, true, true, false, false, false, false, false, false] rfl rfl (by kernel_rfl) (fun _ _ _ h => h) (Or.inl ⟨by rfl, ?_⟩) ?_ ?_
      rotate_left
      · intro w'
        go_simp
        with_reducible rfl
      rotate_left
      · simp only [Act.put, List.setIfInBounds_toArray, List.set_cons_zero, List.set_cons_succ, i64_w, i32_w, f1, f2, f3, g1, g2, g3, hz]
        rfl
      refine pure_ (i := 19) (N := some 135) (v := ?_) (a' := ?_) #[true, true, true, true, true, true, true, true, true, true, true, true, true, true, true, true, true, true, true, true, false, false, false, false, false] rfl rfl (by kernel_rfl) (fun _ _ _ h => h) (Or.inl ⟨by rfl, ?_⟩) ?_ ?_
      rotate_left
      · intro w'
        go_simp
        with_reducible rfl
      rotate_left
      · simp only [Act.put, List.setIfInBounds_toArray, List.set_cons_zero, List.set_cons_succ, i64_w, i32_w, f1, f2, f3, g1, g2, g3, hz]
        rfl
      refine last_ (i := 20) (N := none) #[true, true, true, true, true, true, true, true, true, true, true, true, true, true, true, true, true, true, true, true, true, false, false, false, false] rfl rfl (by kernel_rfl) (by decide) (fun K hK => ?_)
      refine skip_ (w1 := ?_) (by rfl) rfl ?_ ?_
      rotate_left
      · go_simp
        rfl
      refine hK.out _ _ ?_
      clear hK K
      refine pure_ (i := 21) (N := some 136) (v := ?_) (a' := ?_) #[true, true, true, true, true, true, true, true, true, true, true, true, true, true, true, true, true, true, true, true, true, true, false, false, false] rfl rfl (by kernel_rfl) (fun _ _ _ h => h) (Or.inl ⟨by rfl, ?_⟩) ?_ ?_
      rotate_left
      · intro w'
        go_simp
        with_reducible rfl
      rotate_left
      · simp only [Act.put, List.setIfInBounds_toArray, List.set_cons_zero, List.set_cons_succ, i64_w, i32_w, f1, f2, f3, g1, g2, g3, hz]
        rfl
      refine last_ (i := 22) (N := none) #[true, true, true, true, true, true, true, true, true, true, true, true, true, true, true, true, true, true, true, true, true, true, true, false, false] rfl rfl (by kernel_rfl) (by decide) (fun K hK => ?_)
      refine skip_ (w1 := ?_) (by rfl) rfl ?_ ?_
      rotate_left
      · go_simp
        rfl
      refine hK.out _ _ ?_
      clear hK K
      refine pure_ (i := 23) (N := some 137) (v := ?_) (a' := ?_) #[true, true, true, true, true, true, true, true, true, true, true, true, true, true, true, true, true, true, true, true, true, true, true, true, false] rfl rfl (by kernel_rfl) (fun _ _ _ h => h) (Or.inl ⟨by rfl, ?_⟩) ?_ ?_
      rotate_left
      · intro w'
        go_simp
        with_reducible rfl
      rotate_left
      · simp only [Act.put, List.setIfInBounds_toArray, List.set_cons_zero, List.set_cons_succ, i64_w, i32_w, f1, f2, f3, g1, g2, g3, hz]
        rfl
      refine last_ (i := 24) (N := none) #[true, true, true, true, true, true, true, true, true, true, true, true, true, true, true, true, true, true, true, true, true, true, true, true, true] rfl rfl (by kernel_rfl) (by decide) (fun K hK => ?_)
      refine skip_ (w1 := ?_) (by rfl) rfl ?_ ?_
      rotate_left
      · go_simp
        rfl
      refine hK.out _ _ ?_
      clear hK K
      refine done_ (by kernel_rfl) ?_
      clear f1 f2 f3 g1 g2 g3 t10 v10 t11 v11 t12 v12
      have P13 := Lib.hid (bkDw (bkFar (bkFar (bkFar P12.out (p := ⟨w9.heap.size, 10, none⟩) (by have := H9.out; simp; omega) (iv (lpR s.a10 (s.a11 * num / den) (s.a12 * num / den)).1)) (p := ⟨w9.heap.size, 11, none⟩) (by have := H9.out; simp; omega) (iv (lpR s.a10 (s.a11 * num / den) (s.a12 * num / den)).2.1)) (p := ⟨w9.heap.size, 12, none⟩) (by have := H9.out; simp; omega) (iv (lpR s.a10 (s.a11 * num / den) (s.a12 * num / den)).2.2)))
      have H13 := Lib.hid (bkDw (bkFar (bkFar (bkFar H12.out (p := ⟨w9.heap.size, 10, none⟩) (by have := H9.out; simp; omega) (iv (lpR s.a10 (s.a11 * num / den) (s.a12 * num / den)).1)) (p := ⟨w9.heap.size, 11, none⟩) (by have := H9.out; simp; omega) (iv (lpR s.a10 (s.a11 * num / den) (s.a12 * num / den)).2.1)) (p := ⟨w9.heap.size, 12, none⟩) (by have := H9.out; simp; omega) (iv (lpR s.a10 (s.a11 * num / den) (s.a12 * num / den)).2.2)))
      have T13 := Lib.hid (bkDw (bkPut (bkPut (bkPut T12.out 10 (iv (lpR s.a10 (s.a11 * num / den) (s.a12 * num / den)).1) (show _ = S.cs ⟨s.nm, s.a2, rt, s.a4, s.a5, s.a6, (lpR s.a7 (s.a8 * num / den) (s.a9 * num / den)).1, (lpR s.a7 (s.a8 * num / den) (s.a9 * num / den)).2.1, (lpR s.a7 (s.a8 * num / den) (s.a9 * num / den)).2.2, (lpR s.a10 (s.a11 * num / den) (s.a12 * num / den)).1, s.a11, s.a12⟩ (some ⟨g, 0, none⟩) j j from rfl)) 11 (iv (lpR s.a10 (s.a11 * num / den) (s.a12 * num / den)).2.1) (show _ = S.cs ⟨s.nm, s.a2, rt, s.a4, s.a5, s.a6, (lpR s.a7 (s.a8 * num / den) (s.a9 * num / den)).1, (lpR s.a7 (s.a8 * num / den) (s.a9 * num / den)).2.1, (lpR s.a7 (s.a8 * num / den) (s.a9 * num / den)).2.2, (lpR s.a10 (s.a11 * num / den) (s.a12 * num / den)).1, (lpR s.a10 (s.a11 * num / den) (s.a12 * num / den)).2.1, s.a12⟩ (some ⟨g, 0, none⟩) j j from rfl)) 12 (iv (lpR s.a10 (s.a11 * num / den) (s.a12 * num / den)).2.2) (show _ = S.cs ⟨s.nm, s.a2, rt, s.a4, s.a5, s.a6, (lpR s.a7 (s.a8 * num / den) (s.a9 * num / den)).1, (lpR s.a7 (s.a8 * num / den) (s.a9 * num / den)).2.1, (lpR s.a7 (s.a8 * num / den) (s.a9 * num / den)).2.2, (lpR s.a10 (s.a11 * num / den) (s.a12 * num / den)).1, (lpR s.a10 (s.a11 * num / den) (s.a12 * num / den)).2.1, (lpR s.a10 (s.a11 * num / den) (s.a12 * num / den)).2.2⟩ (some ⟨g, 0, none⟩) j j from rfl)))
      have Z13 := ((((Z12).setCell (p := ⟨w9.heap.size, 10, none⟩) (Nat.le_refl _) (iv (lpR s.a10 (s.a11 * num / den) (s.a12 * num / den)).1)).setCell (p := ⟨w9.heap.size, 11, none⟩) (Nat.le_refl _) (iv (lpR s.a10 (s.a11 * num / den) (s.a12 * num / den)).2.1)).setCell (p := ⟨w9.heap.size, 12, none⟩) (Nat.le_refl _) (iv (lpR s.a10 (s.a11 * num / den) (s.a12 * num / den)).2.2)).drew
      have B13 := ((((B12).setCell (p := ⟨w9.heap.size, 10, none⟩) (by have := H9.out; simp; omega) (iv (lpR s.a10 (s.a11 * num / den) (s.a12 * num / den)).1)).setCell (p := ⟨w9.heap.size, 11, none⟩) (by have := H9.out; simp; omega) (iv (lpR s.a10 (s.a11 * num / den) (s.a12 * num / den)).2.1)).setCell (p := ⟨w9.heap.size, 12, none⟩) (by have := H9.out; simp; omega) (iv (lpR s.a10 (s.a11 * num / den) (s.a12 * num / den)).2.2)).drew
      clear P12 H12 T12 Z12 B12
      generalize (((w12.setCell ⟨w9.heap.size, 10, none⟩ (iv (lpR s.a10 (s.a11 * num / den) (s.a12 * num / den)).1)).setCell ⟨w9.heap.size, 11, none⟩ (iv (lpR s.a10 (s.a11 * num / den) (s.a12 * num / den)).2.1)).setCell ⟨w9.heap.size, 12, none⟩ (iv (lpR s.a10 (s.a11 * num / den) (s.a12 * num / den)).2.2)).drew = w13 at *
      have hT : rsmS s num den = ⟨s.nm, s.a2, rt, s.a4, s.a5, s.a6, (lpR s.a7 (s.a8 * num / den) (s.a9 * num / den)).1, (lpR s.a7 (s.a8 * num / den) (s.a9 * num / den)).2.1, (lpR s.a7 (s.a8 * num / den) (s.a9 * num / den)).2.2, (lpR s.a10 (s.a11 * num / den) (s.a12 * num / den)).1, (lpR s.a10 (s.a11 * num / den) (s.a12 * num / den)).2.1, (lpR s.a10 (s.a11 * num / den) (s.a12 * num / den)).2.2⟩ := by unfold rsmS; rw [HRT.out]; rfl
      go_wp2_with (first
        | (refine wpList_load_row rfl 24 (.tmp 16) rfl (w9.heap.size) rfl 24 _ (0, 0) _ T13.out Try.underlying24 rfl (S.i24 _ _ _ _) ?_)
        | (refine wpList_store_row rfl 24 (.tmp 8) (.tmp 138) rfl (w.heap.size + 1) (S.cs ⟨s.nm, s.a2, rt, s.a4, s.a5, s.a6, (lpR s.a7 (s.a8 * num / den) (s.a9 * num / den)).1, (lpR s.a7 (s.a8 * num / den) (s.a9 * num / den)).2.1, (lpR s.a7 (s.a8 * num / den) (s.a9 * num / den)).2.2, (lpR s.a10 (s.a11 * num / den) (s.a12 * num / den)).1, (lpR s.a10 (s.a11 * num / den) (s.a12 * num / den)).2.1, (lpR s.a10 (s.a11 * num / den) (s.a12 * num / den)).2.2⟩ (some ⟨g, 0, none⟩) j j) rfl rfl 24 _ H13.out (S.i24 _ _ _ _) (S.sz S.zero _ none _ 0 0 _ _) (S.one _ _ _ _) ?_))
      refine bodyPost_ret (res_ct rfl _ _ (w.heap.size + 1) 24 _ (0, 0) _ rfl (setRow_heap _ _ _ _ _ _ H13.out) Try.underlying24 rfl (S.i24 _ _ _ _)) rfl ⟨some ⟨g, 0, none⟩, j, g, 0, by first | (rw [hT]; rfl) | rw [hT], (D9.out.later Z13).setRow (fun _ => by have := H9.out; omega) _, below_setRow B13 (by omega) _⟩
theorem rres5_ok (s : S) (A : Option Addr) (n c0 b o : Nat) (xs : Nat → Int) (num den : Int) (kind m : Nat) (hv : vS s n xs = true) (hk : kind ≤ 4) (hr : 1 ≤ num ∧ num ≤ 10000) (hr2 : 1 ≤ den ∧ den ≤ 10000) (hm : (n : Int) * num / den = m) (hm4 : m ≤ 4096) (hn : n ≤ 9223372036854775807) (hc0 : n ≤ c0) (w : World) (hA : DataAt w A n b o xs) : GivesD 48 #[.agg (s.cs A n c0), iv num, iv den, iv kind] w (rsmS s num den) m (rsmF s n xs num den kind) 0 := by
  rcases (vS_yes hv).2.1 with h | h
  · exact rres5_8 s A n c0 b o xs num den kind m hv h hk hr hr2 hm hm4 hn hc0 w hA
  · exact rres5_16 s A n c0 b o xs num den kind m hv h hk hr hr2 hm hm4 hn hc0 w hA
end Go.Proofs.Ytnmoiolddfboiaa.SX

/- A sample at another rate, by package tune. -/
import Derived.Test.YtnmoiolddfboiaaSyP
import Derived.Test.YtnmoiolddfboiaaSxR
namespace Go.Proofs.Ytnmoiolddfboiaa.SX
open Go.RowKit Go.Proofs.YtnmoiolddfboiaaW.PrintLast Go.Proofs.Ytnmoiolddfboiaa.TX Go.Proofs.Ytnmoiolddfboiaa.Cu
set_option linter.unusedVariables false
set_option linter.unusedSimpArgs false
theorem drewBk {w : World} {g : Nat} {o : Obj} (h : w.heap[g]? = some o) (m : Nat) : (w.drewN m).heap[g]? = some o := by rw [World.heap_drewN]; exact h
theorem limit_hb {s : S} {n : Nat} {xs : Nat → Int} (hv : vS s n xs = true) : Bits s.a2 (hb s.a2) := by
  rcases (vS_yes hv).2.1 with e | e
  · rw [e]; exact .inl ⟨rfl, rfl⟩
  · rw [e]; exact .inr ⟨rfl, rfl⟩
theorem clp_mx {h : Int} (z : Int) (hh : 1 ≤ h) : max (-h) (min (h - 1) z) = clp h z := by
  unfold clp
  repeat' split
  all_goals omega
theorem rate_mm (q : Int) : max 1 (min 65535 q) = rateR q := by
  unfold rateR
  repeat' split
  all_goals omega
theorem lp_bd {k a b : Int} {n : Nat} (h : LpOk k a b n) (hn : n ≤ 4096) : (0 ≤ a ∧ a ≤ 4096) ∧ (0 ≤ b ∧ b ≤ 4096) := by
  unfold LpOk at h
  omega
set_option maxHeartbeats 16000000 in
set_option maxRecDepth 100000 in
theorem tres_bad (s : S) (A : Option Addr) (n c0 b o : Nat) (xs : Nat → Int) (num den kind : Int) (hv : vS s n xs = false) (hn : n ≤ 9223372036854775807) (hc0 : n ≤ c0) (w : World) (hA : DataAt w A n b o xs) : Gives 47 #[.agg (s.cs A n c0), iv num, iv den, iv kind] w S.zero 0 (fun _ => 0) 1 := by
  unfold Gives
  have H0 := Lib.hid (show ((w.alloc (Obj.cells (s.cs A n c0) 24)).alloc (Obj.cells #[Value.string ⟨#[]⟩, Value.slice none 0 0, iv 0, iv 0, iv 0, iv 0, iv 0, iv 0, iv 0, iv 0, iv 0, iv 0, iv 0] 24)).heap[w.heap.size + 1]? = some (.cells (S.zero.cs none 0 0) 24 (0, 0)) from heap_alloc2_new w (Obj.cells (s.cs A n c0) 24) (Obj.cells #[Value.string ⟨#[]⟩, Value.slice none 0 0, iv 0, iv 0, iv 0, iv 0, iv 0, iv 0, iv 0, iv 0, iv 0, iv 0, iv 0] 24))
  have B0 : Below w.heap.size w ((w.alloc (Obj.cells (s.cs A n c0) 24)).alloc (Obj.cells #[Value.string ⟨#[]⟩, Value.slice none 0 0, iv 0, iv 0, iv 0, iv 0, iv 0, iv 0, iv 0, iv 0, iv 0, iv 0, iv 0] 24)) := ((Below.refl _ _).alloc (Nat.le_refl _) _).alloc (by simp) _
  have P0 := Lib.hid (show ((w.alloc (Obj.cells (s.cs A n c0) 24)).alloc (Obj.cells #[Value.string ⟨#[]⟩, Value.slice none 0 0, iv 0, iv 0, iv 0, iv 0, iv 0, iv 0, iv 0, iv 0, iv 0, iv 0, iv 0] 24)).heap[w.heap.size]? = some (.cells (s.cs A n c0) 24 (0, 0)) from heap_alloc2_old w _ _)
  have D0 := Lib.hid (hA.later B0)
  have VC := Lib.hid (show ∀ (W : World), DataAt W A n b o xs → Calls Try.prog 15 #[.agg (s.cs A n c0)] W fun e w' => e = .returned (.bool false) ∧ Below W.heap.size W w' from fun W h => by have := valid_any s A n c0 b o xs hn hc0 W h; rwa [hv] at this)
  clear hA hv
  go_enter Try.func47, Try.ntmps47
  go_wp2_with (first
    | (refine wpList_load_row rfl 24 (.tmp 4) rfl (w.heap.size) rfl 24 _ (0, 0) _ P0.out Try.underlying24 rfl (S.i24 _ _ _ _) ?_)
    | (go_at_call 15; (with_reducible refine (VC.out _ D0.out).mono ?_); rintro e w1 ⟨rfl, hb1⟩; have P1 := Lib.hid (bkBelow P0.out hb1); have H1 := Lib.hid (bkBelow H0.out hb1); have D1 := Lib.hid (D0.out.later hb1); have B1 := bdT B0 B0.size hb1)
    | (refine wpBuild0 rfl 24 rfl (S.zero.cs none 0 0) built24 ?_)
    | (refine wpList_store_row rfl 24 (.tmp 8) (.tmp 22) rfl (w.heap.size + 1) (S.zero.cs none 0 0) rfl rfl 24 _ H1.out (S.i24 _ _ _ _) (S.sz S.zero S.zero none none 0 0 0 0) (S.one _ _ _ _) ?_))
  refine bodyPost_ret (res_ct rfl _ _ (w.heap.size + 1) 24 _ (0, 0) _ rfl (setRow_heap _ _ _ _ _ _ H1.out) Try.underlying24 rfl (S.i24 _ _ _ _)) rfl ⟨none, 0, rfl, own0, below_setRow B1 (by omega) _⟩
set_option maxHeartbeats 16000000 in
set_option maxRecDepth 100000 in
theorem tres_kind (s : S) (A : Option Addr) (n c0 b o : Nat) (xs : Nat → Int) (num den kind : Int) (hv : vS s n xs = true) (hk : kind < 0 ∨ 4 < kind) (hn : n ≤ 9223372036854775807) (hc0 : n ≤ c0) (w : World) (hA : DataAt w A n b o xs) : Gives 47 #[.agg (s.cs A n c0), iv num, iv den, iv kind] w S.zero 0 (fun _ => 0) 6 := by
  unfold Gives
  have H0 := Lib.hid (show ((w.alloc (Obj.cells (s.cs A n c0) 24)).alloc (Obj.cells #[Value.string ⟨#[]⟩, Value.slice none 0 0, iv 0, iv 0, iv 0, iv 0, iv 0, iv 0, iv 0, iv 0, iv 0, iv 0, iv 0] 24)).heap[w.heap.size + 1]? = some (.cells (S.zero.cs none 0 0) 24 (0, 0)) from heap_alloc2_new w (Obj.cells (s.cs A n c0) 24) (Obj.cells #[Value.string ⟨#[]⟩, Value.slice none 0 0, iv 0, iv 0, iv 0, iv 0, iv 0, iv 0, iv 0, iv 0, iv 0, iv 0, iv 0] 24))
  have B0 : Below w.heap.size w ((w.alloc (Obj.cells (s.cs A n c0) 24)).alloc (Obj.cells #[Value.string ⟨#[]⟩, Value.slice none 0 0, iv 0, iv 0, iv 0, iv 0, iv 0, iv 0, iv 0, iv 0, iv 0, iv 0, iv 0] 24)) := ((Below.refl _ _).alloc (Nat.le_refl _) _).alloc (by simp) _
  have P0 := Lib.hid (show ((w.alloc (Obj.cells (s.cs A n c0) 24)).alloc (Obj.cells #[Value.string ⟨#[]⟩, Value.slice none 0 0, iv 0, iv 0, iv 0, iv 0, iv 0, iv 0, iv 0, iv 0, iv 0, iv 0, iv 0] 24)).heap[w.heap.size]? = some (.cells (s.cs A n c0) 24 (0, 0)) from heap_alloc2_old w _ _)
  have D0 := Lib.hid (hA.later B0)
  have VC := Lib.hid (show ∀ (W : World), DataAt W A n b o xs → Calls Try.prog 15 #[.agg (s.cs A n c0)] W fun e w' => e = .returned (.bool true) ∧ Below W.heap.size W w' from fun W h => by have := valid_any s A n c0 b o xs hn hc0 W h; rwa [hv] at this)
  have I1 := Lib.hid fun (W : World) => in_no kind 0 4 W (by omega)
  clear hk
  clear hA hv
  go_enter Try.func47, Try.ntmps47
  go_wp2_with (first
    | (refine wpList_load_row rfl 24 (.tmp 4) rfl (w.heap.size) rfl 24 _ (0, 0) _ P0.out Try.underlying24 rfl (S.i24 _ _ _ _) ?_)
    | (go_at_call 15; (with_reducible refine (VC.out _ D0.out).mono ?_); rintro e w1 ⟨rfl, hb1⟩; have P1 := Lib.hid (bkBelow P0.out hb1); have H1 := Lib.hid (bkBelow H0.out hb1); have p1 := (bkCell P1.out 1).trans (show _ = some (Value.slice A n c0) from rfl); have D1 := Lib.hid (D0.out.later hb1); have B1 := bdT B0 B0.size hb1)
    | (go_at_call 87; (with_reducible refine (I1.out _).mono ?_); rintro e w2 ⟨rfl, rfl⟩)
    | (refine wpBuild0 rfl 24 rfl (S.zero.cs none 0 0) built24 ?_)
    | (refine wpList_store_row rfl 24 (.tmp 8) (.tmp 26) rfl (w.heap.size + 1) (S.zero.cs none 0 0) rfl rfl 24 _ H1.out (S.i24 _ _ _ _) (S.sz S.zero S.zero none none 0 0 0 0) (S.one _ _ _ _) ?_))
  refine bodyPost_ret (res_ct rfl _ _ (w.heap.size + 1) 24 _ (0, 0) _ rfl (setRow_heap _ _ _ _ _ _ H1.out) Try.underlying24 rfl (S.i24 _ _ _ _)) rfl ⟨none, 0, rfl, own0, below_setRow B1 (by omega) _⟩
set_option maxHeartbeats 16000000 in
set_option maxRecDepth 100000 in
theorem tres_num (s : S) (A : Option Addr) (n c0 b o : Nat) (xs : Nat → Int) (num den kind : Int) (hv : vS s n xs = true) (hk : 0 ≤ kind ∧ kind ≤ 4) (hr : num < 1 ∨ 10000 < num) (hn : n ≤ 9223372036854775807) (hc0 : n ≤ c0) (w : World) (hA : DataAt w A n b o xs) : Gives 47 #[.agg (s.cs A n c0), iv num, iv den, iv kind] w S.zero 0 (fun _ => 0) 5 := by
  unfold Gives
  have H0 := Lib.hid (show ((w.alloc (Obj.cells (s.cs A n c0) 24)).alloc (Obj.cells #[Value.string ⟨#[]⟩, Value.slice none 0 0, iv 0, iv 0, iv 0, iv 0, iv 0, iv 0, iv 0, iv 0, iv 0, iv 0, iv 0] 24)).heap[w.heap.size + 1]? = some (.cells (S.zero.cs none 0 0) 24 (0, 0)) from heap_alloc2_new w (Obj.cells (s.cs A n c0) 24) (Obj.cells #[Value.string ⟨#[]⟩, Value.slice none 0 0, iv 0, iv 0, iv 0, iv 0, iv 0, iv 0, iv 0, iv 0, iv 0, iv 0, iv 0] 24))
  have B0 : Below w.heap.size w ((w.alloc (Obj.cells (s.cs A n c0) 24)).alloc (Obj.cells #[Value.string ⟨#[]⟩, Value.slice none 0 0, iv 0, iv 0, iv 0, iv 0, iv 0, iv 0, iv 0, iv 0, iv 0, iv 0, iv 0] 24)) := ((Below.refl _ _).alloc (Nat.le_refl _) _).alloc (by simp) _
  have P0 := Lib.hid (show ((w.alloc (Obj.cells (s.cs A n c0) 24)).alloc (Obj.cells #[Value.string ⟨#[]⟩, Value.slice none 0 0, iv 0, iv 0, iv 0, iv 0, iv 0, iv 0, iv 0, iv 0, iv 0, iv 0, iv 0] 24)).heap[w.heap.size]? = some (.cells (s.cs A n c0) 24 (0, 0)) from heap_alloc2_old w _ _)
  have D0 := Lib.hid (hA.later B0)
  have VC := Lib.hid (show ∀ (W : World), DataAt W A n b o xs → Calls Try.prog 15 #[.agg (s.cs A n c0)] W fun e w' => e = .returned (.bool true) ∧ Below W.heap.size W w' from fun W h => by have := valid_any s A n c0 b o xs hn hc0 W h; rwa [hv] at this)
  have I1 := Lib.hid fun (W : World) => in_yes kind 0 4 W (by omega) (by omega)
  have I2 := Lib.hid fun (W : World) => in_no num 1 10000 W (by omega)
  clear hk hr
  clear hA hv
  go_enter Try.func47, Try.ntmps47
  go_wp2_with (first
    | (refine wpList_load_row rfl 24 (.tmp 4) rfl (w.heap.size) rfl 24 _ (0, 0) _ P0.out Try.underlying24 rfl (S.i24 _ _ _ _) ?_)
    | (go_at_call 15; (with_reducible refine (VC.out _ D0.out).mono ?_); rintro e w1 ⟨rfl, hb1⟩; have P1 := Lib.hid (bkBelow P0.out hb1); have H1 := Lib.hid (bkBelow H0.out hb1); have p1 := (bkCell P1.out 1).trans (show _ = some (Value.slice A n c0) from rfl); have D1 := Lib.hid (D0.out.later hb1); have B1 := bdT B0 B0.size hb1)
    | (go_at_call 87; (with_reducible refine (I1.out _).mono ?_); rintro e w2 ⟨rfl, rfl⟩)
    | (go_at_call 87; (with_reducible refine (I2.out _).mono ?_); rintro e w2 ⟨rfl, rfl⟩)
    | (refine wpBuild0 rfl 24 rfl (S.zero.cs none 0 0) built24 ?_)
    | (refine wpList_store_row rfl 24 (.tmp 8) (.tmp 35) rfl (w.heap.size + 1) (S.zero.cs none 0 0) rfl rfl 24 _ H1.out (S.i24 _ _ _ _) (S.sz S.zero S.zero none none 0 0 0 0) (S.one _ _ _ _) ?_))
  refine bodyPost_ret (res_ct rfl _ _ (w.heap.size + 1) 24 _ (0, 0) _ rfl (setRow_heap _ _ _ _ _ _ H1.out) Try.underlying24 rfl (S.i24 _ _ _ _)) rfl ⟨none, 0, rfl, own0, below_setRow B1 (by omega) _⟩
set_option maxHeartbeats 16000000 in
set_option maxRecDepth 100000 in
theorem tres_den (s : S) (A : Option Addr) (n c0 b o : Nat) (xs : Nat → Int) (num den kind : Int) (hv : vS s n xs = true) (hk : 0 ≤ kind ∧ kind ≤ 4) (hr : 1 ≤ num ∧ num ≤ 10000) (hr2 : den < 1 ∨ 10000 < den) (hn : n ≤ 9223372036854775807) (hc0 : n ≤ c0) (w : World) (hA : DataAt w A n b o xs) : Gives 47 #[.agg (s.cs A n c0), iv num, iv den, iv kind] w S.zero 0 (fun _ => 0) 5 := by
  unfold Gives
  have H0 := Lib.hid (show ((w.alloc (Obj.cells (s.cs A n c0) 24)).alloc (Obj.cells #[Value.string ⟨#[]⟩, Value.slice none 0 0, iv 0, iv 0, iv 0, iv 0, iv 0, iv 0, iv 0, iv 0, iv 0, iv 0, iv 0] 24)).heap[w.heap.size + 1]? = some (.cells (S.zero.cs none 0 0) 24 (0, 0)) from heap_alloc2_new w (Obj.cells (s.cs A n c0) 24) (Obj.cells #[Value.string ⟨#[]⟩, Value.slice none 0 0, iv 0, iv 0, iv 0, iv 0, iv 0, iv 0, iv 0, iv 0, iv 0, iv 0, iv 0] 24))
  have B0 : Below w.heap.size w ((w.alloc (Obj.cells (s.cs A n c0) 24)).alloc (Obj.cells #[Value.string ⟨#[]⟩, Value.slice none 0 0, iv 0, iv 0, iv 0, iv 0, iv 0, iv 0, iv 0, iv 0, iv 0, iv 0, iv 0] 24)) := ((Below.refl _ _).alloc (Nat.le_refl _) _).alloc (by simp) _
  have P0 := Lib.hid (show ((w.alloc (Obj.cells (s.cs A n c0) 24)).alloc (Obj.cells #[Value.string ⟨#[]⟩, Value.slice none 0 0, iv 0, iv 0, iv 0, iv 0, iv 0, iv 0, iv 0, iv 0, iv 0, iv 0, iv 0] 24)).heap[w.heap.size]? = some (.cells (s.cs A n c0) 24 (0, 0)) from heap_alloc2_old w _ _)
  have D0 := Lib.hid (hA.later B0)
  have VC := Lib.hid (show ∀ (W : World), DataAt W A n b o xs → Calls Try.prog 15 #[.agg (s.cs A n c0)] W fun e w' => e = .returned (.bool true) ∧ Below W.heap.size W w' from fun W h => by have := valid_any s A n c0 b o xs hn hc0 W h; rwa [hv] at this)
  have I1 := Lib.hid fun (W : World) => in_yes kind 0 4 W (by omega) (by omega)
  have I2 := Lib.hid fun (W : World) => in_yes num 1 10000 W (by omega) (by omega)
  have I3 := Lib.hid fun (W : World) => in_no den 1 10000 W (by omega)
  clear hk hr hr2
  clear hA hv
  go_enter Try.func47, Try.ntmps47
  go_wp2_with (first
    | (refine wpList_load_row rfl 24 (.tmp 4) rfl (w.heap.size) rfl 24 _ (0, 0) _ P0.out Try.underlying24 rfl (S.i24 _ _ _ _) ?_)
    | (go_at_call 15; (with_reducible refine (VC.out _ D0.out).mono ?_); rintro e w1 ⟨rfl, hb1⟩; have P1 := Lib.hid (bkBelow P0.out hb1); have H1 := Lib.hid (bkBelow H0.out hb1); have p1 := (bkCell P1.out 1).trans (show _ = some (Value.slice A n c0) from rfl); have D1 := Lib.hid (D0.out.later hb1); have B1 := bdT B0 B0.size hb1)
    | (go_at_call 87; (with_reducible refine (I1.out _).mono ?_); rintro e w2 ⟨rfl, rfl⟩)
    | (go_at_call 87; (with_reducible refine (I2.out _).mono ?_); rintro e w2 ⟨rfl, rfl⟩)
    | (go_at_call 87; (with_reducible refine (I3.out _).mono ?_); rintro e w2 ⟨rfl, rfl⟩)
    | (refine wpBuild0 rfl 24 rfl (S.zero.cs none 0 0) built24 ?_)
    | (refine wpList_store_row rfl 24 (.tmp 8) (.tmp 35) rfl (w.heap.size + 1) (S.zero.cs none 0 0) rfl rfl 24 _ H1.out (S.i24 _ _ _ _) (S.sz S.zero S.zero none none 0 0 0 0) (S.one _ _ _ _) ?_))
  refine bodyPost_ret (res_ct rfl _ _ (w.heap.size + 1) 24 _ (0, 0) _ rfl (setRow_heap _ _ _ _ _ _ H1.out) Try.underlying24 rfl (S.i24 _ _ _ _)) rfl ⟨none, 0, rfl, own0, below_setRow B1 (by omega) _⟩
set_option maxHeartbeats 16000000 in
set_option maxRecDepth 100000 in
theorem tres_long (s : S) (A : Option Addr) (n c0 b o : Nat) (xs : Nat → Int) (num den kind : Int) (hv : vS s n xs = true) (hk : 0 ≤ kind ∧ kind ≤ 4) (hr : 1 ≤ num ∧ num ≤ 10000) (hr2 : 1 ≤ den ∧ den ≤ 10000) (q : Int) (hm : (n : Int) * num / den = q) (hq : 4096 < q) (hn : n ≤ 9223372036854775807) (hc0 : n ≤ c0) (w : World) (hA : DataAt w A n b o xs) : Gives 47 #[.agg (s.cs A n c0), iv num, iv den, iv kind] w S.zero 0 (fun _ => 0) 4 := by
  unfold Gives
  have H0 := Lib.hid (show ((w.alloc (Obj.cells (s.cs A n c0) 24)).alloc (Obj.cells #[Value.string ⟨#[]⟩, Value.slice none 0 0, iv 0, iv 0, iv 0, iv 0, iv 0, iv 0, iv 0, iv 0, iv 0, iv 0, iv 0] 24)).heap[w.heap.size + 1]? = some (.cells (S.zero.cs none 0 0) 24 (0, 0)) from heap_alloc2_new w (Obj.cells (s.cs A n c0) 24) (Obj.cells #[Value.string ⟨#[]⟩, Value.slice none 0 0, iv 0, iv 0, iv 0, iv 0, iv 0, iv 0, iv 0, iv 0, iv 0, iv 0, iv 0] 24))
  have B0 : Below w.heap.size w ((w.alloc (Obj.cells (s.cs A n c0) 24)).alloc (Obj.cells #[Value.string ⟨#[]⟩, Value.slice none 0 0, iv 0, iv 0, iv 0, iv 0, iv 0, iv 0, iv 0, iv 0, iv 0, iv 0, iv 0] 24)) := ((Below.refl _ _).alloc (Nat.le_refl _) _).alloc (by simp) _
  have P0 := Lib.hid (show ((w.alloc (Obj.cells (s.cs A n c0) 24)).alloc (Obj.cells #[Value.string ⟨#[]⟩, Value.slice none 0 0, iv 0, iv 0, iv 0, iv 0, iv 0, iv 0, iv 0, iv 0, iv 0, iv 0, iv 0] 24)).heap[w.heap.size]? = some (.cells (s.cs A n c0) 24 (0, 0)) from heap_alloc2_old w _ _)
  have D0 := Lib.hid (hA.later B0)
  have VC := Lib.hid (show ∀ (W : World), DataAt W A n b o xs → Calls Try.prog 15 #[.agg (s.cs A n c0)] W fun e w' => e = .returned (.bool true) ∧ Below W.heap.size W w' from fun W h => by have := valid_any s A n c0 b o xs hn hc0 W h; rwa [hv] at this)
  have I1 := Lib.hid fun (W : World) => in_yes kind 0 4 W (by omega) (by omega)
  have I2 := Lib.hid fun (W : World) => in_yes num 1 10000 W (by omega) (by omega)
  have I3 := Lib.hid fun (W : World) => in_yes den 1 10000 W (by omega) (by omega)
  have hn4 := (vS_yes hv).2.2.1
  have QQ := Lib.hid (quo_facts (a := (n : Int)) (num := num) (den := den) (A := 4096) (by omega) ⟨by omega, by omega⟩ hr hr2)
  rw [hm] at QQ
  have hz : (den = 0) = False := eq_false (by omega)
  have d1 : decide (4096 < q) = true := decide_eq_true hq
  clear hk hr hr2 hm hq hn4
  obtain ⟨f1, f2, f3, _, _⟩ := QQ.out
  clear hA hv
  go_enter Try.func47, Try.ntmps47
  go_wp2_with (first
    | (refine wpList_load_row rfl 24 (.tmp 4) rfl (w.heap.size) rfl 24 _ (0, 0) _ P0.out Try.underlying24 rfl (S.i24 _ _ _ _) ?_)
    | (go_at_call 15; (with_reducible refine (VC.out _ D0.out).mono ?_); rintro e w1 ⟨rfl, hb1⟩; have P1 := Lib.hid (bkBelow P0.out hb1); have H1 := Lib.hid (bkBelow H0.out hb1); have p1 := (bkCell P1.out 1).trans (show _ = some (Value.slice A n c0) from rfl); have D1 := Lib.hid (D0.out.later hb1); have B1 := bdT B0 B0.size hb1)
    | (go_at_call 87; (with_reducible refine (I1.out _).mono ?_); rintro e w2 ⟨rfl, rfl⟩)
    | (go_at_call 87; (with_reducible refine (I2.out _).mono ?_); rintro e w2 ⟨rfl, rfl⟩)
    | (go_at_call 87; (with_reducible refine (I3.out _).mono ?_); rintro e w2 ⟨rfl, rfl⟩)
    | (refine wpBuild0 rfl 24 rfl (S.zero.cs none 0 0) built24 ?_)
    | (refine wpList_store_row rfl 24 (.tmp 8) (.tmp 45) rfl (w.heap.size + 1) (S.zero.cs none 0 0) rfl rfl 24 _ H1.out (S.i24 _ _ _ _) (S.sz S.zero S.zero none none 0 0 0 0) (S.one _ _ _ _) ?_))
  refine bodyPost_ret (res_ct rfl _ _ (w.heap.size + 1) 24 _ (0, 0) _ rfl (setRow_heap _ _ _ _ _ _ H1.out) Try.underlying24 rfl (S.i24 _ _ _ _)) rfl ⟨none, 0, rfl, own0, below_setRow B1 (by omega) _⟩
set_option maxHeartbeats 32000000 in
set_option maxRecDepth 100000 in
theorem tres_8 (s : S) (A : Option Addr) (n c0 b o : Nat) (xs : Nat → Int) (num den : Int) (kind m : Nat) (hv : vS s n xs = true) (ha2 : s.a2 = 8) (hk : kind ≤ 4) (hr : 1 ≤ num ∧ num ≤ 10000) (hr2 : 1 ≤ den ∧ den ≤ 10000) (hm : (n : Int) * num / den = m) (hm4 : m ≤ 4096) (hn : n ≤ 9223372036854775807) (hc0 : n ≤ c0) (w : World) (hA : DataAt w A n b o xs) : Gives 47 #[.agg (s.cs A n c0), iv num, iv den, iv kind] w (rsmS s num den) m (rsmF s n xs num den kind) 0 := by
  unfold Gives
  have H0 := Lib.hid (show ((w.alloc (Obj.cells (s.cs A n c0) 24)).alloc (Obj.cells #[Value.string ⟨#[]⟩, Value.slice none 0 0, iv 0, iv 0, iv 0, iv 0, iv 0, iv 0, iv 0, iv 0, iv 0, iv 0, iv 0] 24)).heap[w.heap.size + 1]? = some (.cells (S.zero.cs none 0 0) 24 (0, 0)) from heap_alloc2_new w (Obj.cells (s.cs A n c0) 24) (Obj.cells #[Value.string ⟨#[]⟩, Value.slice none 0 0, iv 0, iv 0, iv 0, iv 0, iv 0, iv 0, iv 0, iv 0, iv 0, iv 0, iv 0] 24))
  have B0 : Below w.heap.size w ((w.alloc (Obj.cells (s.cs A n c0) 24)).alloc (Obj.cells #[Value.string ⟨#[]⟩, Value.slice none 0 0, iv 0, iv 0, iv 0, iv 0, iv 0, iv 0, iv 0, iv 0, iv 0, iv 0, iv 0] 24)) := ((Below.refl _ _).alloc (Nat.le_refl _) _).alloc (by simp) _
  have P0 := Lib.hid (show ((w.alloc (Obj.cells (s.cs A n c0) 24)).alloc (Obj.cells #[Value.string ⟨#[]⟩, Value.slice none 0 0, iv 0, iv 0, iv 0, iv 0, iv 0, iv 0, iv 0, iv 0, iv 0, iv 0, iv 0] 24)).heap[w.heap.size]? = some (.cells (s.cs A n c0) 24 (0, 0)) from heap_alloc2_old w _ _)
  have D0 := Lib.hid (hA.later B0)
  have VC := Lib.hid (show ∀ (W : World), DataAt W A n b o xs → Calls Try.prog 15 #[.agg (s.cs A n c0)] W fun e w' => e = .returned (.bool true) ∧ Below W.heap.size W w' from fun W h => by have := valid_any s A n c0 b o xs hn hc0 W h; rwa [hv] at this)
  obtain ⟨_, _, n4, _, _, _, l7, l10⟩ := vS_yes hv
  unfold LpOk at l7 l10
  have HN := Lib.hid n4
  have h6 := (vS_yes hv).2.2.2.2.2.1
  unfold RgOk at h6
  have I1 := Lib.hid fun (W : World) => in_yes (kind : Int) 0 4 W (by omega) (by omega)
  have I2 := Lib.hid fun (W : World) => in_yes num 1 10000 W (by omega) (by omega)
  have I3 := Lib.hid fun (W : World) => in_yes den 1 10000 W (by omega) (by omega)
  have hn4 := (vS_yes hv).2.2.1
  have QQ := Lib.hid (quo_facts (a := (n : Int)) (num := num) (den := den) (A := 4096) (by omega) ⟨by omega, by omega⟩ hr hr2)
  rw [hm] at QQ
  have hz : (den = 0) = False := eq_false (by omega)
  have d1 : decide (4096 < (m : Int)) = false := decide_eq_false (by omega)
  have n1 : decide (4096 < m) = false := decide_eq_false (by omega)
  have l0 : (0 : Int) ≤ (m : Int) := by omega
  have hzn : (num = 0) = False := eq_false (by omega)
  have HM := Lib.hid hm4
  have HA2 := Lib.hid ha2
  have HK := Lib.hid hk
  have HD := Lib.hid hA
  have HBT := limit_hb hv
  have HBD := bits_bd HBT
  obtain ⟨h, hh⟩ : ∃ h, hb s.a2 = h := ⟨_, rfl⟩
  rw [hh] at HBT HBD
  have HHH := Lib.hid hh
  have LC := Lib.hid fun W => limit_any 8 h (ha2 ▸ HBT) W
  have HBH := Lib.hid HBD
  obtain ⟨i0, hi, hz0, hz1, hz2⟩ := info_parts info3
  have cva := curves_kc kind hk
  have RP := Lib.hid fun (j : Nat) (hj : j < m) => rs_place hr hr2 hm hm4 hj
  have AC := Lib.hid fun (j : Nat) (hj : j < m) (g : Nat) (W : World) (hP : W.heap[g]? = some (.cells ((plainS s).cs A n c0) 24 (0, 0))) (hB : Below w.heap.size w W) => (show Calls Try.prog 85 #[.agg (kc kind), .pointer (some ⟨g, 0, none⟩), .agg #[iv (rsX num den j / 65536), iv (rsX num den j % 65536), .bool false, .bool false], .bool false] W fun e w' => e = .returned (iv (rsV s n xs num den kind j)) ∧ Below W.heap.size W w' from by
    rw [← kc_cv hk]
    exact kat_any kind hk (plainS s) A n c0 g b o xs (rsC num den j) false rfl (plain_loops hn4) (plain_frames hv) (plain_tame hv) (by
      have := rs_place hr hr2 hm hm4 hj
      unfold CurOk rsC
      rw [if_neg (show ¬ (false = true) by decide)]
      simp only
      omega) W hP (HD.out.later hB))
  have HV := Lib.hid fun (j : Nat) => rsV_bd hv num den kind j hk
  have S7 := Lib.hid fun (W : World) => scaled_any s.a7 s.a8 s.a9 num den (lp_bd l7 hn4).1 (lp_bd l7 hn4).2 hr hr2 W
  have S10 := Lib.hid fun (W : World) => scaled_any s.a10 s.a11 s.a12 num den (lp_bd l10 hn4).1 (lp_bd l10 hn4).2 hr hr2 W
  have RT := Lib.hid (quo_facts (a := s.a3) (num := num) (den := den) (A := 65535) (by omega) ⟨by omega, by omega⟩ hr hr2)
  have HRR := Lib.hid (And.intro hr hr2)
  clear hA hv l7 l10 h6 ha2 hk hr hr2 hm hm4 hn4 HBT HBD hh
  go_enter Try.func47, Try.ntmps47
  go_upto_region 7 with (first
    | (refine wpList_load_row rfl 24 (.tmp 4) rfl (w.heap.size) rfl 24 _ (0, 0) _ P0.out Try.underlying24 rfl (S.i24 _ _ _ _) ?_)
    | (go_at_call 15; (with_reducible refine (VC.out _ D0.out).mono ?_); rintro e w1 ⟨rfl, hb1⟩; have P1 := Lib.hid (bkBelow P0.out hb1); have H1 := Lib.hid (bkBelow H0.out hb1); have D1 := Lib.hid (D0.out.later hb1); have B1 := bdT B0 B0.size hb1)
    | (go_at_call 87; (with_reducible refine (I1.out _).mono ?_); rintro e w2 ⟨rfl, rfl⟩)
    | (go_at_call 87; (with_reducible refine (I2.out _).mono ?_); rintro e w2 ⟨rfl, rfl⟩)
    | (go_at_call 87; (with_reducible refine (I3.out _).mono ?_); rintro e w2 ⟨rfl, rfl⟩))
  have HP := Lib.hid (bkLt P1.out)
  have HH := Lib.hid (bkLt H1.out)
  have p1 := (bkCell P1.out 1).trans (show _ = some (Value.slice A n c0) from rfl)
  have p2 := (bkCell P1.out 2).trans (show _ = some (iv s.a2) from rfl)
  rw [HA2.out] at p2
  obtain ⟨f1, f2, f3, _, _⟩ := QQ.out
  go_upto_region 10 with (fail)
  clear d1 n1 f1 f2 f3
  go_upto_region 11 with (fail)
  have k2 := (Below.refl w1.heap.size w1).alloc (Nat.le_refl _) (Obj.cells #[Value.string ⟨#[]⟩, Value.slice A n c0, iv 8, iv 0, iv 0, iv 0, iv 0, iv 0, iv 0, iv 0, iv 0, iv 0, iv 0] 24)
  have P2 := Lib.hid (bkBelow P1.out k2)
  have H2 := Lib.hid (bkBelow H1.out k2)
  have U2 := Lib.hid ((heap_alloc_new w1 (Obj.cells #[Value.string ⟨#[]⟩, Value.slice A n c0, iv 8, iv 0, iv 0, iv 0, iv 0, iv 0, iv 0, iv 0, iv 0, iv 0, iv 0] 24)).trans (show _ = some (Obj.cells ((plainS s).cs A n c0) 24 (0, 0)) from by rw [show (plainS s).cs A n c0 = #[Value.string ⟨#[]⟩, Value.slice A n c0, iv 8, iv 0, iv 0, iv 0, iv 0, iv 0, iv 0, iv 0, iv 0, iv 0, iv 0] from by unfold S.cs plainS; simp only [HA2.out]; rfl]))
  have B2 := bdT B1 B1.size k2
  clear k2 P1 H1 B1 p1 p2 P0 H0 D0 B0 D1
  generalize w1.alloc (Obj.cells #[Value.string ⟨#[]⟩, Value.slice A n c0, iv 8, iv 0, iv 0, iv 0, iv 0, iv 0, iv 0, iv 0, iv 0, iv 0, iv 0] 24) = w2 at *
  have HU := Lib.hid (bkLt U2.out)
  go_upto_region 12 with (first
    | (go_at_call 84; (with_reducible refine (curves_any _).mono ?_); rintro e w3 ⟨rfl, hb3⟩; have P3 := Lib.hid (bkBelow P2.out hb3); have H3 := Lib.hid (bkBelow H2.out hb3); have U3 := Lib.hid (bkBelow U2.out hb3); have B3 := bdT B2 B2.size hb3)
    | (refine wpList_store_row rfl 90 (.tmp 12) (.tmp 53) rfl (w3.heap.size) (kc kind) rfl rfl 90 _ (heap_alloc_new w3 _) (kc_i HK.out) (by rw [kc_sz HK.out]; rfl) (kc_one HK.out) ?_))
  have k4 := below_setRow ((Below.refl w3.heap.size w3).alloc (Nat.le_refl _) (Obj.cells #[.nilFunc, iv 0] 90)) (g := w3.heap.size) (Nat.le_refl _) (kc kind)
  have P4 := Lib.hid (bkBelow P3.out k4)
  have H4 := Lib.hid (bkBelow H3.out k4)
  have U4 := Lib.hid (bkBelow U3.out k4)
  have Q4 := Lib.hid (setRow_heap _ _ _ (kc kind) _ _ (heap_alloc_new w3 (Obj.cells #[.nilFunc, iv 0] 90)))
  have HU3 := Lib.hid (bkLt U3.out)
  have B4 := bdT B3 B3.size k4
  clear k4 P3 H3 U3 B3 P2 H2 U2 B2 cva hb3
  generalize (w3.alloc (Obj.cells #[.nilFunc, iv 0] 90)).setRow w3.heap.size (kc kind) = w4 at *
  have p2 := (bkCell P4.out 2).trans (show _ = some (iv s.a2) from rfl)
  rw [HA2.out] at p2
  go_upto_region 13 with (go_at_call 88; (with_reducible refine (LC.out _).mono ?_); rintro e w9 ⟨rfl, m5, rfl⟩)
  have P5 := Lib.hid (drewBk P4.out m5)
  have H5 := Lib.hid (drewBk H4.out m5)
  have U5 := Lib.hid (drewBk U4.out m5)
  have Q5 := Lib.hid (drewBk Q4.out m5)
  have B5 := bdN B4 m5
  clear P4 H4 U4 Q4 B4 p2
  generalize w4.drewN m5 = w5 at *
  have HQ5 := Lib.hid (show w.heap.size < w1.heap.size ∧ w.heap.size + 1 < w1.heap.size ∧ w1.heap.size < w3.heap.size ∧ w3.heap.size < w5.heap.size from ⟨HP.out, HH.out, HU3.out, bkLt Q5.out⟩)
  go_upto_region 14 with (at_make; refine wpList_make_full _ rfl _ _ 22 rfl w5.heap.size 3 i0 (.int .i64 0) 1 Try.underlying22 hi hz0 hz1 .i64 .i64 _ _ m rfl rfl rfl rfl (by rw [hz2]; have := HM.out; omega) (by unfold maxLen; have := HM.out; omega) (Nat.le_refl _) ?_; intro w6 hown hgrow)
  have k6 : Below w5.heap.size w5 w6 := (Below.refl _ _).grown hgrow (Nat.le_refl _) (by simp)
  have P6 := Lib.hid (bkBelow P5.out k6)
  have H6 := Lib.hid (bkBelow H5.out k6)
  have U6 := Lib.hid (bkBelow U5.out k6)
  have Q6 := Lib.hid (bkBelow Q5.out k6)
  have O6 := Lib.hid hown
  have B6 := bdT B5 B5.size k6
  clear k6 hown hgrow P5 H5 U5 Q5 B5
  go_upto_region 15 with (fail)
  go_loopw [64] (fun v wr => ∃ (j : Nat) (F : Nat → Int), j ≤ m ∧ v = iv j ∧ (∀ i, i < j → F i = rsmF s n xs num den kind i) ∧ wr.heap[w.heap.size]? = some (.cells (s.cs A n c0) 24 (0, 0)) ∧ wr.heap[w.heap.size + 1]? = some (.cells (S.zero.cs none 0 0) 24 (0, 0)) ∧ wr.heap[w1.heap.size]? = some (.cells ((plainS s).cs A n c0) 24 (0, 0)) ∧ wr.heap[w3.heap.size]? = some (.cells (kc kind) 90 (0, 0)) ∧ wr.ownsRow w5.heap.size 3 1 (.slice (some ⟨w5.heap.size, 0, none⟩) m m) m (rw_ F m) ∧ Below w.heap.size w wr) (fun v _ => m - (intOf v).toNat)
  case atStart => exact ⟨0, fun _ => 0, by omega, rfl, fun i hi => by omega, P6.out, H6.out, U6.out, Q6.out, ownN O6.out (by rw [rw_zero]; first | rfl | (rw [Nat.mul_one]; exact toList_madeCells_one _ _)), B6⟩
  case round =>
    clear P6 H6 U6 Q6 O6 B6
    obtain ⟨j, F, hj, rfl, hF, hP, hH, hU, hQ, hO, hB⟩ := hrel
    have NF := Lib.hid hF
    have NP := Lib.hid hP
    have NH := Lib.hid hH
    have NU := Lib.hid hU
    have NQ := Lib.hid hQ
    have NO := Lib.hid hO
    have l3 : (0 : Int) ≤ (j : Int) := by omega
    clear hF hP hH hU hQ hO
    by_cases hlt : j < m
    · have l4 : (j : Int) < (m : Int) := by omega
      have TQ := Lib.hid (AC.out j hlt w1.heap.size wr NU.out hB)
      have RV := Lib.hid (HV.out j)
      obtain ⟨v, hv⟩ : ∃ v, rsV s n xs num den kind j = v := ⟨_, rfl⟩
      have HVV := Lib.hid hv
      rw [hv] at TQ RV
      clear hv
      obtain ⟨f1, f2, f3, f4, f5, f6, f7, f8, _, _, _, _⟩ := RP.out j hlt
      go_upto_region 19 with (first
        | (refine wpList_load_row rfl 90 (.tmp 12) rfl (w3.heap.size) rfl 90 _ (0, 0) _ NQ.out Try.underlying90 rfl (kc_i HK.out) ?_)
        | (go_at_call 85; (with_reducible refine TQ.out.mono ?_); rintro e w7 ⟨rfl, hb7⟩; have P7 := Lib.hid (bkBelow NP.out hb7); have H7 := Lib.hid (bkBelow NH.out hb7); have U7 := Lib.hid (bkBelow NU.out hb7); have Q7 := Lib.hid (bkBelow NQ.out hb7); have O7 := Lib.hid (ownBelow NO.out hb7); have B7 := bdT hB hB.size hb7))
      clear f1 f2 f3 f4 f5 f6 f7 f8
      have p2 := (bkCell P7.out 2).trans (show _ = some (iv s.a2) from rfl)
      rw [HA2.out] at p2
      have e1 : wrap64 (v + 128) = v + 128 := wrap_in (by have := RV.out; omega) (by have := RV.out; omega)
      have s4 : w7.cell? ⟨w5.heap.size, j, none⟩ = some (iv (F j)) := (O7.out.cellAt j (by omega)).trans (rw_at F m j hlt)
      have f4 := O7.out.frozenAt j
      go_upto_region 22 with (fail)
      rw [clp_mx ((v + 128) / 256) HBH.out.1]
      have HW := Lib.hid (show clp h ((v + 128) / 256) = rsmF s n xs num den kind j from by unfold rsmF rsW; rw [HHH.out, HVV.out, if_pos HA2.out])
      generalize clp h ((v + 128) / 256) = y at *
      have hq := HQ5.out
      have P8 := Lib.hid (bkFar P7.out (p := ⟨w5.heap.size, j, none⟩) (by simp; omega) (iv y))
      have H8 := Lib.hid (bkFar H7.out (p := ⟨w5.heap.size, j, none⟩) (by simp; omega) (iv y))
      have U8 := Lib.hid (bkFar U7.out (p := ⟨w5.heap.size, j, none⟩) (by simp; omega) (iv y))
      have Q8 := Lib.hid (bkFar Q7.out (p := ⟨w5.heap.size, j, none⟩) (by simp; omega) (iv y))
      have O8 := Lib.hid (ownN (O7.out.stored j (iv y)).1 (rw_set F m j y))
      have B8 := B7.setCell (p := ⟨w5.heap.size, j, none⟩) (by simp; omega) (iv y)
      clear P7 H7 U7 Q7 O7 B7 p2 s4 f4 hq hb7
      go_wp2
      exact ⟨⟨j + 1, fun i => if i = j then y else F i, by omega, by go_num, fun i hi => by
        by_cases e : i = j
        · subst e; simp [HW.out]
        · simp [e]; exact NF.out i (by omega), P8.out, H8.out, U8.out, Q8.out, O8.out, B8⟩, by simp [intOf]; omega⟩
    · obtain rfl : j = m := by omega
      have p1 := (bkCell NP.out 1).trans (show _ = some (Value.slice A n c0) from rfl)
      have u1 := bkFrozen NP.out 1
      go_upto_region 24 with (fail)
      have P10 := Lib.hid (bkPut NP.out 1 (.slice (some ⟨w5.heap.size, 0, none⟩) j j) (S.set1 s A (some ⟨w5.heap.size, 0, none⟩) n c0 j j))
      have H10 := Lib.hid (bkFar NH.out (p := ⟨w.heap.size, 1, none⟩) (by simp) (.slice (some ⟨w5.heap.size, 0, none⟩) j j))
      have O10 := Lib.hid (ownVC (ownN NO.out (rw_congr fun i hi => NF.out i hi)) (p := ⟨w.heap.size, 1, none⟩) (by have := HQ5.out; simp; omega) (.slice (some ⟨w5.heap.size, 0, none⟩) j j))
      have B10 := hB.setCell (p := ⟨w.heap.size, 1, none⟩) (Nat.le_refl _) (.slice (some ⟨w5.heap.size, 0, none⟩) j j)
      clear p1 u1 hB
      generalize wr.setCell ⟨w.heap.size, 1, none⟩ (.slice (some ⟨w5.heap.size, 0, none⟩) j j) = w10 at *
      have p3 := (bkCell P10.out 3).trans (show _ = some (iv s.a3) from rfl)
      have u3 := bkFrozen P10.out 3
      obtain ⟨f1, f2, f3, _, _⟩ := RT.out
      obtain ⟨rt, hrt⟩ : ∃ rt, rateR (s.a3 * num / den) = rt := ⟨_, rfl⟩
      have HRT := Lib.hid hrt
      have e0 := (rate_mm (s.a3 * num / den)).trans hrt
      clear hrt
      go_upto_region 25 with (fail)
      try rw [e0]
      clear f1 f2 f3 e0
      have P11 := Lib.hid (bkPut P10.out 3 (iv rt) (show _ = S.cs ⟨s.nm, s.a2, rt, s.a4, s.a5, s.a6, s.a7, s.a8, s.a9, s.a10, s.a11, s.a12⟩ (some ⟨w5.heap.size, 0, none⟩) j j from rfl))
      have H11 := Lib.hid (bkFar H10.out (p := ⟨w.heap.size, 3, none⟩) (by simp) (iv rt))
      have O11 := Lib.hid (ownVC O10.out (p := ⟨w.heap.size, 3, none⟩) (by have := HQ5.out; simp; omega) (iv rt))
      have B11 := B10.setCell (p := ⟨w.heap.size, 3, none⟩) (Nat.le_refl _) (iv rt)
      clear p3 u3 P10 H10 O10 B10
      generalize w10.setCell ⟨w.heap.size, 3, none⟩ (iv rt) = w11 at *
      have p7 := (bkCell P11.out 7).trans (show _ = some (iv s.a7) from rfl)
      have p8 := (bkCell P11.out 8).trans (show _ = some (iv s.a8) from rfl)
      have p9 := (bkCell P11.out 9).trans (show _ = some (iv s.a9) from rfl)
      go_upto_region 26 with (go_at_call 89; (with_reducible refine (S7.out _).mono ?_); rintro e w12 ⟨rfl, hb12⟩; have P12 := Lib.hid (bkBelow P11.out hb12); have H12 := Lib.hid (bkBelow H11.out hb12); have O12 := Lib.hid (ownBelow O11.out hb12); have B12 := bdT B11 B11.size hb12; have t7 := (bkCell P12.out 7).trans (show _ = some (iv s.a7) from rfl); have u7 := bkFrozen P12.out 7; have t8 := (bkCell P12.out 8).trans (show _ = some (iv s.a8) from rfl); have u8 := bkFrozen P12.out 8; have t9 := (bkCell P12.out 9).trans (show _ = some (iv s.a9) from rfl); have u9 := bkFrozen P12.out 9; clear hb12)
      have P13 := Lib.hid (bkPut (bkPut (bkPut P12.out 7 (iv (sclK s.a7 s.a8 s.a9 num den).1) (show _ = S.cs ⟨s.nm, s.a2, rt, s.a4, s.a5, s.a6, (sclK s.a7 s.a8 s.a9 num den).1, s.a8, s.a9, s.a10, s.a11, s.a12⟩ (some ⟨w5.heap.size, 0, none⟩) j j from rfl)) 8 (iv (sclK s.a7 s.a8 s.a9 num den).2.1) (show _ = S.cs ⟨s.nm, s.a2, rt, s.a4, s.a5, s.a6, (sclK s.a7 s.a8 s.a9 num den).1, (sclK s.a7 s.a8 s.a9 num den).2.1, s.a9, s.a10, s.a11, s.a12⟩ (some ⟨w5.heap.size, 0, none⟩) j j from rfl)) 9 (iv (sclK s.a7 s.a8 s.a9 num den).2.2) (show _ = S.cs ⟨s.nm, s.a2, rt, s.a4, s.a5, s.a6, (sclK s.a7 s.a8 s.a9 num den).1, (sclK s.a7 s.a8 s.a9 num den).2.1, (sclK s.a7 s.a8 s.a9 num den).2.2, s.a10, s.a11, s.a12⟩ (some ⟨w5.heap.size, 0, none⟩) j j from rfl))
      have H13 := Lib.hid (bkFar (bkFar (bkFar H12.out (p := ⟨w.heap.size, 7, none⟩) (by simp) (iv (sclK s.a7 s.a8 s.a9 num den).1)) (p := ⟨w.heap.size, 8, none⟩) (by simp) (iv (sclK s.a7 s.a8 s.a9 num den).2.1)) (p := ⟨w.heap.size, 9, none⟩) (by simp) (iv (sclK s.a7 s.a8 s.a9 num den).2.2))
      have O13 := Lib.hid (ownVC (ownVC (ownVC O12.out (p := ⟨w.heap.size, 7, none⟩) (by have := HQ5.out; simp; omega) (iv (sclK s.a7 s.a8 s.a9 num den).1)) (p := ⟨w.heap.size, 8, none⟩) (by have := HQ5.out; simp; omega) (iv (sclK s.a7 s.a8 s.a9 num den).2.1)) (p := ⟨w.heap.size, 9, none⟩) (by have := HQ5.out; simp; omega) (iv (sclK s.a7 s.a8 s.a9 num den).2.2))
      have B13 := (((B12.setCell (p := ⟨w.heap.size, 7, none⟩) (Nat.le_refl _) (iv (sclK s.a7 s.a8 s.a9 num den).1)).setCell (p := ⟨w.heap.size, 8, none⟩) (Nat.le_refl _) (iv (sclK s.a7 s.a8 s.a9 num den).2.1)).setCell (p := ⟨w.heap.size, 9, none⟩) (Nat.le_refl _) (iv (sclK s.a7 s.a8 s.a9 num den).2.2))
      clear p7 t7 u7 p8 t8 u8 p9 t9 u9 P11 P12 H11 H12 O11 O12 B11 B12
      generalize (((w12.setCell ⟨w.heap.size, 7, none⟩ (iv (sclK s.a7 s.a8 s.a9 num den).1)).setCell ⟨w.heap.size, 8, none⟩ (iv (sclK s.a7 s.a8 s.a9 num den).2.1)).setCell ⟨w.heap.size, 9, none⟩ (iv (sclK s.a7 s.a8 s.a9 num den).2.2)) = w13 at *
      have p10 := (bkCell P13.out 10).trans (show _ = some (iv s.a10) from rfl)
      have p11 := (bkCell P13.out 11).trans (show _ = some (iv s.a11) from rfl)
      have p12 := (bkCell P13.out 12).trans (show _ = some (iv s.a12) from rfl)
      go_upto_region 27 with (go_at_call 89; (with_reducible refine (S10.out _).mono ?_); rintro e w14 ⟨rfl, hb14⟩; have P14 := Lib.hid (bkBelow P13.out hb14); have H14 := Lib.hid (bkBelow H13.out hb14); have O14 := Lib.hid (ownBelow O13.out hb14); have B14 := bdT B13 B13.size hb14; have t10 := (bkCell P14.out 10).trans (show _ = some (iv s.a10) from rfl); have u10 := bkFrozen P14.out 10; have t11 := (bkCell P14.out 11).trans (show _ = some (iv s.a11) from rfl); have u11 := bkFrozen P14.out 11; have t12 := (bkCell P14.out 12).trans (show _ = some (iv s.a12) from rfl); have u12 := bkFrozen P14.out 12; clear hb14)
      have P15 := Lib.hid (bkPut (bkPut (bkPut P14.out 10 (iv (sclK s.a10 s.a11 s.a12 num den).1) (show _ = S.cs ⟨s.nm, s.a2, rt, s.a4, s.a5, s.a6, (sclK s.a7 s.a8 s.a9 num den).1, (sclK s.a7 s.a8 s.a9 num den).2.1, (sclK s.a7 s.a8 s.a9 num den).2.2, (sclK s.a10 s.a11 s.a12 num den).1, s.a11, s.a12⟩ (some ⟨w5.heap.size, 0, none⟩) j j from rfl)) 11 (iv (sclK s.a10 s.a11 s.a12 num den).2.1) (show _ = S.cs ⟨s.nm, s.a2, rt, s.a4, s.a5, s.a6, (sclK s.a7 s.a8 s.a9 num den).1, (sclK s.a7 s.a8 s.a9 num den).2.1, (sclK s.a7 s.a8 s.a9 num den).2.2, (sclK s.a10 s.a11 s.a12 num den).1, (sclK s.a10 s.a11 s.a12 num den).2.1, s.a12⟩ (some ⟨w5.heap.size, 0, none⟩) j j from rfl)) 12 (iv (sclK s.a10 s.a11 s.a12 num den).2.2) (show _ = S.cs ⟨s.nm, s.a2, rt, s.a4, s.a5, s.a6, (sclK s.a7 s.a8 s.a9 num den).1, (sclK s.a7 s.a8 s.a9 num den).2.1, (sclK s.a7 s.a8 s.a9 num den).2.2, (sclK s.a10 s.a11 s.a12 num den).1, (sclK s.a10 s.a11 s.a12 num den).2.1, (sclK s.a10 s.a11 s.a12 num den).2.2⟩ (some ⟨w5.heap.size, 0, none⟩) j j from rfl))
      have H15 := Lib.hid (bkFar (bkFar (bkFar H14.out (p := ⟨w.heap.size, 10, none⟩) (by simp) (iv (sclK s.a10 s.a11 s.a12 num den).1)) (p := ⟨w.heap.size, 11, none⟩) (by simp) (iv (sclK s.a10 s.a11 s.a12 num den).2.1)) (p := ⟨w.heap.size, 12, none⟩) (by simp) (iv (sclK s.a10 s.a11 s.a12 num den).2.2))
      have O15 := Lib.hid (ownVC (ownVC (ownVC O14.out (p := ⟨w.heap.size, 10, none⟩) (by have := HQ5.out; simp; omega) (iv (sclK s.a10 s.a11 s.a12 num den).1)) (p := ⟨w.heap.size, 11, none⟩) (by have := HQ5.out; simp; omega) (iv (sclK s.a10 s.a11 s.a12 num den).2.1)) (p := ⟨w.heap.size, 12, none⟩) (by have := HQ5.out; simp; omega) (iv (sclK s.a10 s.a11 s.a12 num den).2.2))
      have B15 := (((B14.setCell (p := ⟨w.heap.size, 10, none⟩) (Nat.le_refl _) (iv (sclK s.a10 s.a11 s.a12 num den).1)).setCell (p := ⟨w.heap.size, 11, none⟩) (Nat.le_refl _) (iv (sclK s.a10 s.a11 s.a12 num den).2.1)).setCell (p := ⟨w.heap.size, 12, none⟩) (Nat.le_refl _) (iv (sclK s.a10 s.a11 s.a12 num den).2.2))
      clear p10 t10 u10 p11 t11 u11 p12 t12 u12 P13 P14 H13 H14 O13 O14 B13 B14
      generalize (((w14.setCell ⟨w.heap.size, 10, none⟩ (iv (sclK s.a10 s.a11 s.a12 num den).1)).setCell ⟨w.heap.size, 11, none⟩ (iv (sclK s.a10 s.a11 s.a12 num den).2.1)).setCell ⟨w.heap.size, 12, none⟩ (iv (sclK s.a10 s.a11 s.a12 num den).2.2)) = w15 at *
      have hT : rsmS s num den = ⟨s.nm, s.a2, rt, s.a4, s.a5, s.a6, (sclK s.a7 s.a8 s.a9 num den).1, (sclK s.a7 s.a8 s.a9 num den).2.1, (sclK s.a7 s.a8 s.a9 num den).2.2, (sclK s.a10 s.a11 s.a12 num den).1, (sclK s.a10 s.a11 s.a12 num den).2.1, (sclK s.a10 s.a11 s.a12 num den).2.2⟩ := by unfold rsmS; rw [HRT.out]
      go_wp2_with (first
        | (refine wpList_load_row rfl 24 (.tmp 4) rfl (w.heap.size) rfl 24 _ (0, 0) _ P15.out Try.underlying24 rfl (S.i24 _ _ _ _) ?_)
        | (refine wpList_store_row rfl 24 (.tmp 8) (.tmp 138) rfl (w.heap.size + 1) (S.cs ⟨s.nm, s.a2, rt, s.a4, s.a5, s.a6, (sclK s.a7 s.a8 s.a9 num den).1, (sclK s.a7 s.a8 s.a9 num den).2.1, (sclK s.a7 s.a8 s.a9 num den).2.2, (sclK s.a10 s.a11 s.a12 num den).1, (sclK s.a10 s.a11 s.a12 num den).2.1, (sclK s.a10 s.a11 s.a12 num den).2.2⟩ (some ⟨w5.heap.size, 0, none⟩) j j) rfl rfl 24 _ H15.out (S.i24 _ _ _ _) (S.sz S.zero _ none _ 0 0 _ _) (S.one _ _ _ _) ?_))
      refine bodyPost_ret (res_ct rfl _ _ (w.heap.size + 1) 24 _ (0, 0) _ rfl (setRow_heap _ _ _ _ _ _ H15.out) Try.underlying24 rfl (S.i24 _ _ _ _)) rfl ⟨some ⟨w5.heap.size, 0, none⟩, j, by first | (rw [hT]; rfl) | rw [hT], ownBase2 (ownVR O15.out (by have := HQ5.out; omega) _) (by have := HQ5.out; omega), below_setRow B15 (by omega) _⟩
set_option maxHeartbeats 32000000 in
set_option maxRecDepth 100000 in
theorem tres_16 (s : S) (A : Option Addr) (n c0 b o : Nat) (xs : Nat → Int) (num den : Int) (kind m : Nat) (hv : vS s n xs = true) (ha2 : s.a2 = 16) (hk : kind ≤ 4) (hr : 1 ≤ num ∧ num ≤ 10000) (hr2 : 1 ≤ den ∧ den ≤ 10000) (hm : (n : Int) * num / den = m) (hm4 : m ≤ 4096) (hn : n ≤ 9223372036854775807) (hc0 : n ≤ c0) (w : World) (hA : DataAt w A n b o xs) : Gives 47 #[.agg (s.cs A n c0), iv num, iv den, iv kind] w (rsmS s num den) m (rsmF s n xs num den kind) 0 := by
  unfold Gives
  have H0 := Lib.hid (show ((w.alloc (Obj.cells (s.cs A n c0) 24)).alloc (Obj.cells #[Value.string ⟨#[]⟩, Value.slice none 0 0, iv 0, iv 0, iv 0, iv 0, iv 0, iv 0, iv 0, iv 0, iv 0, iv 0, iv 0] 24)).heap[w.heap.size + 1]? = some (.cells (S.zero.cs none 0 0) 24 (0, 0)) from heap_alloc2_new w (Obj.cells (s.cs A n c0) 24) (Obj.cells #[Value.string ⟨#[]⟩, Value.slice none 0 0, iv 0, iv 0, iv 0, iv 0, iv 0, iv 0, iv 0, iv 0, iv 0, iv 0, iv 0] 24))
  have B0 : Below w.heap.size w ((w.alloc (Obj.cells (s.cs A n c0) 24)).alloc (Obj.cells #[Value.string ⟨#[]⟩, Value.slice none 0 0, iv 0, iv 0, iv 0, iv 0, iv 0, iv 0, iv 0, iv 0, iv 0, iv 0, iv 0] 24)) := ((Below.refl _ _).alloc (Nat.le_refl _) _).alloc (by simp) _
  have P0 := Lib.hid (show ((w.alloc (Obj.cells (s.cs A n c0) 24)).alloc (Obj.cells #[Value.string ⟨#[]⟩, Value.slice none 0 0, iv 0, iv 0, iv 0, iv 0, iv 0, iv 0, iv 0, iv 0, iv 0, iv 0, iv 0] 24)).heap[w.heap.size]? = some (.cells (s.cs A n c0) 24 (0, 0)) from heap_alloc2_old w _ _)
  have D0 := Lib.hid (hA.later B0)
  have VC := Lib.hid (show ∀ (W : World), DataAt W A n b o xs → Calls Try.prog 15 #[.agg (s.cs A n c0)] W fun e w' => e = .returned (.bool true) ∧ Below W.heap.size W w' from fun W h => by have := valid_any s A n c0 b o xs hn hc0 W h; rwa [hv] at this)
  obtain ⟨_, _, n4, _, _, _, l7, l10⟩ := vS_yes hv
  unfold LpOk at l7 l10
  have HN := Lib.hid n4
  have h6 := (vS_yes hv).2.2.2.2.2.1
  unfold RgOk at h6
  have I1 := Lib.hid fun (W : World) => in_yes (kind : Int) 0 4 W (by omega) (by omega)
  have I2 := Lib.hid fun (W : World) => in_yes num 1 10000 W (by omega) (by omega)
  have I3 := Lib.hid fun (W : World) => in_yes den 1 10000 W (by omega) (by omega)
  have hn4 := (vS_yes hv).2.2.1
  have QQ := Lib.hid (quo_facts (a := (n : Int)) (num := num) (den := den) (A := 4096) (by omega) ⟨by omega, by omega⟩ hr hr2)
  rw [hm] at QQ
  have hz : (den = 0) = False := eq_false (by omega)
  have d1 : decide (4096 < (m : Int)) = false := decide_eq_false (by omega)
  have n1 : decide (4096 < m) = false := decide_eq_false (by omega)
  have l0 : (0 : Int) ≤ (m : Int) := by omega
  have hzn : (num = 0) = False := eq_false (by omega)
  have HM := Lib.hid hm4
  have HA2 := Lib.hid ha2
  have HK := Lib.hid hk
  have HD := Lib.hid hA
  have HBT := limit_hb hv
  have HBD := bits_bd HBT
  obtain ⟨h, hh⟩ : ∃ h, hb s.a2 = h := ⟨_, rfl⟩
  rw [hh] at HBT HBD
  have HHH := Lib.hid hh
  have LC := Lib.hid fun W => limit_any 16 h (ha2 ▸ HBT) W
  have HBH := Lib.hid HBD
  obtain ⟨i0, hi, hz0, hz1, hz2⟩ := info_parts info3
  have cva := curves_kc kind hk
  have RP := Lib.hid fun (j : Nat) (hj : j < m) => rs_place hr hr2 hm hm4 hj
  have AC := Lib.hid fun (j : Nat) (hj : j < m) (g : Nat) (W : World) (hP : W.heap[g]? = some (.cells ((plainS s).cs A n c0) 24 (0, 0))) (hB : Below w.heap.size w W) => (show Calls Try.prog 85 #[.agg (kc kind), .pointer (some ⟨g, 0, none⟩), .agg #[iv (rsX num den j / 65536), iv (rsX num den j % 65536), .bool false, .bool false], .bool false] W fun e w' => e = .returned (iv (rsV s n xs num den kind j)) ∧ Below W.heap.size W w' from by
    rw [← kc_cv hk]
    exact kat_any kind hk (plainS s) A n c0 g b o xs (rsC num den j) false rfl (plain_loops hn4) (plain_frames hv) (plain_tame hv) (by
      have := rs_place hr hr2 hm hm4 hj
      unfold CurOk rsC
      rw [if_neg (show ¬ (false = true) by decide)]
      simp only
      omega) W hP (HD.out.later hB))
  have HV := Lib.hid fun (j : Nat) => rsV_bd hv num den kind j hk
  have S7 := Lib.hid fun (W : World) => scaled_any s.a7 s.a8 s.a9 num den (lp_bd l7 hn4).1 (lp_bd l7 hn4).2 hr hr2 W
  have S10 := Lib.hid fun (W : World) => scaled_any s.a10 s.a11 s.a12 num den (lp_bd l10 hn4).1 (lp_bd l10 hn4).2 hr hr2 W
  have RT := Lib.hid (quo_facts (a := s.a3) (num := num) (den := den) (A := 65535) (by omega) ⟨by omega, by omega⟩ hr hr2)
  have HRR := Lib.hid (And.intro hr hr2)
  clear hA hv l7 l10 h6 ha2 hk hr hr2 hm hm4 hn4 HBT HBD hh
  go_enter Try.func47, Try.ntmps47
  go_upto_region 7 with (first
    | (refine wpList_load_row rfl 24 (.tmp 4) rfl (w.heap.size) rfl 24 _ (0, 0) _ P0.out Try.underlying24 rfl (S.i24 _ _ _ _) ?_)
    | (go_at_call 15; (with_reducible refine (VC.out _ D0.out).mono ?_); rintro e w1 ⟨rfl, hb1⟩; have P1 := Lib.hid (bkBelow P0.out hb1); have H1 := Lib.hid (bkBelow H0.out hb1); have D1 := Lib.hid (D0.out.later hb1); have B1 := bdT B0 B0.size hb1)
    | (go_at_call 87; (with_reducible refine (I1.out _).mono ?_); rintro e w2 ⟨rfl, rfl⟩)
    | (go_at_call 87; (with_reducible refine (I2.out _).mono ?_); rintro e w2 ⟨rfl, rfl⟩)
    | (go_at_call 87; (with_reducible refine (I3.out _).mono ?_); rintro e w2 ⟨rfl, rfl⟩))
  have HP := Lib.hid (bkLt P1.out)
  have HH := Lib.hid (bkLt H1.out)
  have p1 := (bkCell P1.out 1).trans (show _ = some (Value.slice A n c0) from rfl)
  have p2 := (bkCell P1.out 2).trans (show _ = some (iv s.a2) from rfl)
  rw [HA2.out] at p2
  obtain ⟨f1, f2, f3, _, _⟩ := QQ.out
  go_upto_region 10 with (fail)
  clear d1 n1 f1 f2 f3
  go_upto_region 11 with (fail)
  have k2 := (Below.refl w1.heap.size w1).alloc (Nat.le_refl _) (Obj.cells #[Value.string ⟨#[]⟩, Value.slice A n c0, iv 16, iv 0, iv 0, iv 0, iv 0, iv 0, iv 0, iv 0, iv 0, iv 0, iv 0] 24)
  have P2 := Lib.hid (bkBelow P1.out k2)
  have H2 := Lib.hid (bkBelow H1.out k2)
  have U2 := Lib.hid ((heap_alloc_new w1 (Obj.cells #[Value.string ⟨#[]⟩, Value.slice A n c0, iv 16, iv 0, iv 0, iv 0, iv 0, iv 0, iv 0, iv 0, iv 0, iv 0, iv 0] 24)).trans (show _ = some (Obj.cells ((plainS s).cs A n c0) 24 (0, 0)) from by rw [show (plainS s).cs A n c0 = #[Value.string ⟨#[]⟩, Value.slice A n c0, iv 16, iv 0, iv 0, iv 0, iv 0, iv 0, iv 0, iv 0, iv 0, iv 0, iv 0] from by unfold S.cs plainS; simp only [HA2.out]; rfl]))
  have B2 := bdT B1 B1.size k2
  clear k2 P1 H1 B1 p1 p2 P0 H0 D0 B0 D1
  generalize w1.alloc (Obj.cells #[Value.string ⟨#[]⟩, Value.slice A n c0, iv 16, iv 0, iv 0, iv 0, iv 0, iv 0, iv 0, iv 0, iv 0, iv 0, iv 0] 24) = w2 at *
  have HU := Lib.hid (bkLt U2.out)
  go_upto_region 12 with (first
    | (go_at_call 84; (with_reducible refine (curves_any _).mono ?_); rintro e w3 ⟨rfl, hb3⟩; have P3 := Lib.hid (bkBelow P2.out hb3); have H3 := Lib.hid (bkBelow H2.out hb3); have U3 := Lib.hid (bkBelow U2.out hb3); have B3 := bdT B2 B2.size hb3)
    | (refine wpList_store_row rfl 90 (.tmp 12) (.tmp 53) rfl (w3.heap.size) (kc kind) rfl rfl 90 _ (heap_alloc_new w3 _) (kc_i HK.out) (by rw [kc_sz HK.out]; rfl) (kc_one HK.out) ?_))
  have k4 := below_setRow ((Below.refl w3.heap.size w3).alloc (Nat.le_refl _) (Obj.cells #[.nilFunc, iv 0] 90)) (g := w3.heap.size) (Nat.le_refl _) (kc kind)
  have P4 := Lib.hid (bkBelow P3.out k4)
  have H4 := Lib.hid (bkBelow H3.out k4)
  have U4 := Lib.hid (bkBelow U3.out k4)
  have Q4 := Lib.hid (setRow_heap _ _ _ (kc kind) _ _ (heap_alloc_new w3 (Obj.cells #[.nilFunc, iv 0] 90)))
  have HU3 := Lib.hid (bkLt U3.out)
  have B4 := bdT B3 B3.size k4
  clear k4 P3 H3 U3 B3 P2 H2 U2 B2 cva hb3
  generalize (w3.alloc (Obj.cells #[.nilFunc, iv 0] 90)).setRow w3.heap.size (kc kind) = w4 at *
  have p2 := (bkCell P4.out 2).trans (show _ = some (iv s.a2) from rfl)
  rw [HA2.out] at p2
  go_upto_region 13 with (go_at_call 88; (with_reducible refine (LC.out _).mono ?_); rintro e w9 ⟨rfl, m5, rfl⟩)
  have P5 := Lib.hid (drewBk P4.out m5)
  have H5 := Lib.hid (drewBk H4.out m5)
  have U5 := Lib.hid (drewBk U4.out m5)
  have Q5 := Lib.hid (drewBk Q4.out m5)
  have B5 := bdN B4 m5
  clear P4 H4 U4 Q4 B4 p2
  generalize w4.drewN m5 = w5 at *
  have HQ5 := Lib.hid (show w.heap.size < w1.heap.size ∧ w.heap.size + 1 < w1.heap.size ∧ w1.heap.size < w3.heap.size ∧ w3.heap.size < w5.heap.size from ⟨HP.out, HH.out, HU3.out, bkLt Q5.out⟩)
  go_upto_region 14 with (at_make; refine wpList_make_full _ rfl _ _ 22 rfl w5.heap.size 3 i0 (.int .i64 0) 1 Try.underlying22 hi hz0 hz1 .i64 .i64 _ _ m rfl rfl rfl rfl (by rw [hz2]; have := HM.out; omega) (by unfold maxLen; have := HM.out; omega) (Nat.le_refl _) ?_; intro w6 hown hgrow)
  have k6 : Below w5.heap.size w5 w6 := (Below.refl _ _).grown hgrow (Nat.le_refl _) (by simp)
  have P6 := Lib.hid (bkBelow P5.out k6)
  have H6 := Lib.hid (bkBelow H5.out k6)
  have U6 := Lib.hid (bkBelow U5.out k6)
  have Q6 := Lib.hid (bkBelow Q5.out k6)
  have O6 := Lib.hid hown
  have B6 := bdT B5 B5.size k6
  clear k6 hown hgrow P5 H5 U5 Q5 B5
  go_upto_region 15 with (fail)
  go_loopw [64] (fun v wr => ∃ (j : Nat) (F : Nat → Int), j ≤ m ∧ v = iv j ∧ (∀ i, i < j → F i = rsmF s n xs num den kind i) ∧ wr.heap[w.heap.size]? = some (.cells (s.cs A n c0) 24 (0, 0)) ∧ wr.heap[w.heap.size + 1]? = some (.cells (S.zero.cs none 0 0) 24 (0, 0)) ∧ wr.heap[w1.heap.size]? = some (.cells ((plainS s).cs A n c0) 24 (0, 0)) ∧ wr.heap[w3.heap.size]? = some (.cells (kc kind) 90 (0, 0)) ∧ wr.ownsRow w5.heap.size 3 1 (.slice (some ⟨w5.heap.size, 0, none⟩) m m) m (rw_ F m) ∧ Below w.heap.size w wr) (fun v _ => m - (intOf v).toNat)
  case atStart => exact ⟨0, fun _ => 0, by omega, rfl, fun i hi => by omega, P6.out, H6.out, U6.out, Q6.out, ownN O6.out (by rw [rw_zero]; first | rfl | (rw [Nat.mul_one]; exact toList_madeCells_one _ _)), B6⟩
  case round =>
    clear P6 H6 U6 Q6 O6 B6
    obtain ⟨j, F, hj, rfl, hF, hP, hH, hU, hQ, hO, hB⟩ := hrel
    have NF := Lib.hid hF
    have NP := Lib.hid hP
    have NH := Lib.hid hH
    have NU := Lib.hid hU
    have NQ := Lib.hid hQ
    have NO := Lib.hid hO
    have l3 : (0 : Int) ≤ (j : Int) := by omega
    clear hF hP hH hU hQ hO
    by_cases hlt : j < m
    · have l4 : (j : Int) < (m : Int) := by omega
      have TQ := Lib.hid (AC.out j hlt w1.heap.size wr NU.out hB)
      have RV := Lib.hid (HV.out j)
      obtain ⟨v, hv⟩ : ∃ v, rsV s n xs num den kind j = v := ⟨_, rfl⟩
      have HVV := Lib.hid hv
      rw [hv] at TQ RV
      clear hv
      obtain ⟨f1, f2, f3, f4, f5, f6, f7, f8, _, _, _, _⟩ := RP.out j hlt
      go_upto_region 19 with (first
        | (refine wpList_load_row rfl 90 (.tmp 12) rfl (w3.heap.size) rfl 90 _ (0, 0) _ NQ.out Try.underlying90 rfl (kc_i HK.out) ?_)
        | (go_at_call 85; (with_reducible refine TQ.out.mono ?_); rintro e w7 ⟨rfl, hb7⟩; have P7 := Lib.hid (bkBelow NP.out hb7); have H7 := Lib.hid (bkBelow NH.out hb7); have U7 := Lib.hid (bkBelow NU.out hb7); have Q7 := Lib.hid (bkBelow NQ.out hb7); have O7 := Lib.hid (ownBelow NO.out hb7); have B7 := bdT hB hB.size hb7))
      clear f1 f2 f3 f4 f5 f6 f7 f8
      have p2 := (bkCell P7.out 2).trans (show _ = some (iv s.a2) from rfl)
      rw [HA2.out] at p2
      have s4 : w7.cell? ⟨w5.heap.size, j, none⟩ = some (iv (F j)) := (O7.out.cellAt j (by omega)).trans (rw_at F m j hlt)
      have f4 := O7.out.frozenAt j
      go_upto_region 22 with (fail)
      rw [clp_mx v HBH.out.1]
      have HW := Lib.hid (show clp h v = rsmF s n xs num den kind j from by unfold rsmF rsW; rw [HHH.out, HVV.out, if_neg (by rw [HA2.out]; decide)])
      generalize clp h v = y at *
      have hq := HQ5.out
      have P8 := Lib.hid (bkFar P7.out (p := ⟨w5.heap.size, j, none⟩) (by simp; omega) (iv y))
      have H8 := Lib.hid (bkFar H7.out (p := ⟨w5.heap.size, j, none⟩) (by simp; omega) (iv y))
      have U8 := Lib.hid (bkFar U7.out (p := ⟨w5.heap.size, j, none⟩) (by simp; omega) (iv y))
      have Q8 := Lib.hid (bkFar Q7.out (p := ⟨w5.heap.size, j, none⟩) (by simp; omega) (iv y))
      have O8 := Lib.hid (ownN (O7.out.stored j (iv y)).1 (rw_set F m j y))
      have B8 := B7.setCell (p := ⟨w5.heap.size, j, none⟩) (by simp; omega) (iv y)
      clear P7 H7 U7 Q7 O7 B7 p2 s4 f4 hq hb7
      go_wp2
      exact ⟨⟨j + 1, fun i => if i = j then y else F i, by omega, by go_num, fun i hi => by
        by_cases e : i = j
        · subst e; simp [HW.out]
        · simp [e]; exact NF.out i (by omega), P8.out, H8.out, U8.out, Q8.out, O8.out, B8⟩, by simp [intOf]; omega⟩
    · obtain rfl : j = m := by omega
      have p1 := (bkCell NP.out 1).trans (show _ = some (Value.slice A n c0) from rfl)
      have u1 := bkFrozen NP.out 1
      go_upto_region 24 with (fail)
      have P10 := Lib.hid (bkPut NP.out 1 (.slice (some ⟨w5.heap.size, 0, none⟩) j j) (S.set1 s A (some ⟨w5.heap.size, 0, none⟩) n c0 j j))
      have H10 := Lib.hid (bkFar NH.out (p := ⟨w.heap.size, 1, none⟩) (by simp) (.slice (some ⟨w5.heap.size, 0, none⟩) j j))
      have O10 := Lib.hid (ownVC (ownN NO.out (rw_congr fun i hi => NF.out i hi)) (p := ⟨w.heap.size, 1, none⟩) (by have := HQ5.out; simp; omega) (.slice (some ⟨w5.heap.size, 0, none⟩) j j))
      have B10 := hB.setCell (p := ⟨w.heap.size, 1, none⟩) (Nat.le_refl _) (.slice (some ⟨w5.heap.size, 0, none⟩) j j)
      clear p1 u1 hB
      generalize wr.setCell ⟨w.heap.size, 1, none⟩ (.slice (some ⟨w5.heap.size, 0, none⟩) j j) = w10 at *
      have p3 := (bkCell P10.out 3).trans (show _ = some (iv s.a3) from rfl)
      have u3 := bkFrozen P10.out 3
      obtain ⟨f1, f2, f3, _, _⟩ := RT.out
      obtain ⟨rt, hrt⟩ : ∃ rt, rateR (s.a3 * num / den) = rt := ⟨_, rfl⟩
      have HRT := Lib.hid hrt
      have e0 := (rate_mm (s.a3 * num / den)).trans hrt
      clear hrt
      go_upto_region 25 with (fail)
      try rw [e0]
      clear f1 f2 f3 e0
      have P11 := Lib.hid (bkPut P10.out 3 (iv rt) (show _ = S.cs ⟨s.nm, s.a2, rt, s.a4, s.a5, s.a6, s.a7, s.a8, s.a9, s.a10, s.a11, s.a12⟩ (some ⟨w5.heap.size, 0, none⟩) j j from rfl))
      have H11 := Lib.hid (bkFar H10.out (p := ⟨w.heap.size, 3, none⟩) (by simp) (iv rt))
      have O11 := Lib.hid (ownVC O10.out (p := ⟨w.heap.size, 3, none⟩) (by have := HQ5.out; simp; omega) (iv rt))
      have B11 := B10.setCell (p := ⟨w.heap.size, 3, none⟩) (Nat.le_refl _) (iv rt)
      clear p3 u3 P10 H10 O10 B10
      generalize w10.setCell ⟨w.heap.size, 3, none⟩ (iv rt) = w11 at *
      have p7 := (bkCell P11.out 7).trans (show _ = some (iv s.a7) from rfl)
      have p8 := (bkCell P11.out 8).trans (show _ = some (iv s.a8) from rfl)
      have p9 := (bkCell P11.out 9).trans (show _ = some (iv s.a9) from rfl)
      go_upto_region 26 with (go_at_call 89; (with_reducible refine (S7.out _).mono ?_); rintro e w12 ⟨rfl, hb12⟩; have P12 := Lib.hid (bkBelow P11.out hb12); have H12 := Lib.hid (bkBelow H11.out hb12); have O12 := Lib.hid (ownBelow O11.out hb12); have B12 := bdT B11 B11.size hb12; have t7 := (bkCell P12.out 7).trans (show _ = some (iv s.a7) from rfl); have u7 := bkFrozen P12.out 7; have t8 := (bkCell P12.out 8).trans (show _ = some (iv s.a8) from rfl); have u8 := bkFrozen P12.out 8; have t9 := (bkCell P12.out 9).trans (show _ = some (iv s.a9) from rfl); have u9 := bkFrozen P12.out 9; clear hb12)
      have P13 := Lib.hid (bkPut (bkPut (bkPut P12.out 7 (iv (sclK s.a7 s.a8 s.a9 num den).1) (show _ = S.cs ⟨s.nm, s.a2, rt, s.a4, s.a5, s.a6, (sclK s.a7 s.a8 s.a9 num den).1, s.a8, s.a9, s.a10, s.a11, s.a12⟩ (some ⟨w5.heap.size, 0, none⟩) j j from rfl)) 8 (iv (sclK s.a7 s.a8 s.a9 num den).2.1) (show _ = S.cs ⟨s.nm, s.a2, rt, s.a4, s.a5, s.a6, (sclK s.a7 s.a8 s.a9 num den).1, (sclK s.a7 s.a8 s.a9 num den).2.1, s.a9, s.a10, s.a11, s.a12⟩ (some ⟨w5.heap.size, 0, none⟩) j j from rfl)) 9 (iv (sclK s.a7 s.a8 s.a9 num den).2.2) (show _ = S.cs ⟨s.nm, s.a2, rt, s.a4, s.a5, s.a6, (sclK s.a7 s.a8 s.a9 num den).1, (sclK s.a7 s.a8 s.a9 num den).2.1, (sclK s.a7 s.a8 s.a9 num den).2.2, s.a10, s.a11, s.a12⟩ (some ⟨w5.heap.size, 0, none⟩) j j from rfl))
      have H13 := Lib.hid (bkFar (bkFar (bkFar H12.out (p := ⟨w.heap.size, 7, none⟩) (by simp) (iv (sclK s.a7 s.a8 s.a9 num den).1)) (p := ⟨w.heap.size, 8, none⟩) (by simp) (iv (sclK s.a7 s.a8 s.a9 num den).2.1)) (p := ⟨w.heap.size, 9, none⟩) (by simp) (iv (sclK s.a7 s.a8 s.a9 num den).2.2))
      have O13 := Lib.hid (ownVC (ownVC (ownVC O12.out (p := ⟨w.heap.size, 7, none⟩) (by have := HQ5.out; simp; omega) (iv (sclK s.a7 s.a8 s.a9 num den).1)) (p := ⟨w.heap.size, 8, none⟩) (by have := HQ5.out; simp; omega) (iv (sclK s.a7 s.a8 s.a9 num den).2.1)) (p := ⟨w.heap.size, 9, none⟩) (by have := HQ5.out; simp; omega) (iv (sclK s.a7 s.a8 s.a9 num den).2.2))
      have B13 := (((B12.setCell (p := ⟨w.heap.size, 7, none⟩) (Nat.le_refl _) (iv (sclK s.a7 s.a8 s.a9 num den).1)).setCell (p := ⟨w.heap.size, 8, none⟩) (Nat.le_refl _) (iv (sclK s.a7 s.a8 s.a9 num den).2.1)).setCell (p := ⟨w.heap.size, 9, none⟩) (Nat.le_refl _) (iv (sclK s.a7 s.a8 s.a9 num den).2.2))
      clear p7 t7 u7 p8 t8 u8 p9 t9 u9 P11 P12 H11 H12 O11 O12 B11 B12
      generalize (((w12.setCell ⟨w.heap.size, 7, none⟩ (iv (sclK s.a7 s.a8 s.a9 num den).1)).setCell ⟨w.heap.size, 8, none⟩ (iv (sclK s.a7 s.a8 s.a9 num den).2.1)).setCell ⟨w.heap.size, 9, none⟩ (iv (sclK s.a7 s.a8 s.a9 num den).2.2)) = w13 at *
      have p10 := (bkCell P13.out 10).trans (show _ = some (iv s.a10) from rfl)
      have p11 := (bkCell P13.out 11).trans (show _ = some (iv s.a11) from rfl)
      have p12 := (bkCell P13.out 12).trans (show _ = some (iv s.a12) from rfl)
      go_upto_region 27 with (go_at_call 89; (with_reducible refine (S10.out _).mono ?_); rintro e w14 ⟨rfl, hb14⟩; have P14 := Lib.hid (bkBelow P13.out hb14); have H14 := Lib.hid (bkBelow H13.out hb14); have O14 := Lib.hid (ownBelow O13.out hb14); have B14 := bdT B13 B13.size hb14; have t10 := (bkCell P14.out 10).trans (show _ = some (iv s.a10) from rfl); have u10 := bkFrozen P14.out 10; have t11 := (bkCell P14.out 11).trans (show _ = some (iv s.a11) from rfl); have u11 := bkFrozen P14.out 11; have t12 := (bkCell P14.out 12).trans (show _ = some (iv s.a12) from rfl); have u12 := bkFrozen P14.out 12; clear hb14)
      have P15 := Lib.hid (bkPut (bkPut (bkPut P14.out 10 (iv (sclK s.a10 s.a11 s.a12 num den).1) (show _ = S.cs ⟨s.nm, s.a2, rt, s.a4, s.a5, s.a6, (sclK s.a7 s.a8 s.a9 num den).1, (sclK s.a7 s.a8 s.a9 num den).2.1, (sclK s.a7 s.a8 s.a9 num den).2.2, (sclK s.a10 s.a11 s.a12 num den).1, s.a11, s.a12⟩ (some ⟨w5.heap.size, 0, none⟩) j j from rfl)) 11 (iv (sclK s.a10 s.a11 s.a12 num den).2.1) (show _ = S.cs ⟨s.nm, s.a2, rt, s.a4, s.a5, s.a6, (sclK s.a7 s.a8 s.a9 num den).1, (sclK s.a7 s.a8 s.a9 num den).2.1, (sclK s.a7 s.a8 s.a9 num den).2.2, (sclK s.a10 s.a11 s.a12 num den).1, (sclK s.a10 s.a11 s.a12 num den).2.1, s.a12⟩ (some ⟨w5.heap.size, 0, none⟩) j j from rfl)) 12 (iv (sclK s.a10 s.a11 s.a12 num den).2.2) (show _ = S.cs ⟨s.nm, s.a2, rt, s.a4, s.a5, s.a6, (sclK s.a7 s.a8 s.a9 num den).1, (sclK s.a7 s.a8 s.a9 num den).2.1, (sclK s.a7 s.a8 s.a9 num den).2.2, (sclK s.a10 s.a11 s.a12 num den).1, (sclK s.a10 s.a11 s.a12 num den).2.1, (sclK s.a10 s.a11 s.a12 num den).2.2⟩ (some ⟨w5.heap.size, 0, none⟩) j j from rfl))
      have H15 := Lib.hid (bkFar (bkFar (bkFar H14.out (p := ⟨w.heap.size, 10, none⟩) (by simp) (iv (sclK s.a10 s.a11 s.a12 num den).1)) (p := ⟨w.heap.size, 11, none⟩) (by simp) (iv (sclK s.a10 s.a11 s.a12 num den).2.1)) (p := ⟨w.heap.size, 12, none⟩) (by simp) (iv (sclK s.a10 s.a11 s.a12 num den).2.2))
      have O15 := Lib.hid (ownVC (ownVC (ownVC O14.out (p := ⟨w.heap.size, 10, none⟩) (by have := HQ5.out; simp; omega) (iv (sclK s.a10 s.a11 s.a12 num den).1)) (p := ⟨w.heap.size, 11, none⟩) (by have := HQ5.out; simp; omega) (iv (sclK s.a10 s.a11 s.a12 num den).2.1)) (p := ⟨w.heap.size, 12, none⟩) (by have := HQ5.out; simp; omega) (iv (sclK s.a10 s.a11 s.a12 num den).2.2))
      have B15 := (((B14.setCell (p := ⟨w.heap.size, 10, none⟩) (Nat.le_refl _) (iv (sclK s.a10 s.a11 s.a12 num den).1)).setCell (p := ⟨w.heap.size, 11, none⟩) (Nat.le_refl _) (iv (sclK s.a10 s.a11 s.a12 num den).2.1)).setCell (p := ⟨w.heap.size, 12, none⟩) (Nat.le_refl _) (iv (sclK s.a10 s.a11 s.a12 num den).2.2))
      clear p10 t10 u10 p11 t11 u11 p12 t12 u12 P13 P14 H13 H14 O13 O14 B13 B14
      generalize (((w14.setCell ⟨w.heap.size, 10, none⟩ (iv (sclK s.a10 s.a11 s.a12 num den).1)).setCell ⟨w.heap.size, 11, none⟩ (iv (sclK s.a10 s.a11 s.a12 num den).2.1)).setCell ⟨w.heap.size, 12, none⟩ (iv (sclK s.a10 s.a11 s.a12 num den).2.2)) = w15 at *
      have hT : rsmS s num den = ⟨s.nm, s.a2, rt, s.a4, s.a5, s.a6, (sclK s.a7 s.a8 s.a9 num den).1, (sclK s.a7 s.a8 s.a9 num den).2.1, (sclK s.a7 s.a8 s.a9 num den).2.2, (sclK s.a10 s.a11 s.a12 num den).1, (sclK s.a10 s.a11 s.a12 num den).2.1, (sclK s.a10 s.a11 s.a12 num den).2.2⟩ := by unfold rsmS; rw [HRT.out]
      go_wp2_with (first
        | (refine wpList_load_row rfl 24 (.tmp 4) rfl (w.heap.size) rfl 24 _ (0, 0) _ P15.out Try.underlying24 rfl (S.i24 _ _ _ _) ?_)
        | (refine wpList_store_row rfl 24 (.tmp 8) (.tmp 138) rfl (w.heap.size + 1) (S.cs ⟨s.nm, s.a2, rt, s.a4, s.a5, s.a6, (sclK s.a7 s.a8 s.a9 num den).1, (sclK s.a7 s.a8 s.a9 num den).2.1, (sclK s.a7 s.a8 s.a9 num den).2.2, (sclK s.a10 s.a11 s.a12 num den).1, (sclK s.a10 s.a11 s.a12 num den).2.1, (sclK s.a10 s.a11 s.a12 num den).2.2⟩ (some ⟨w5.heap.size, 0, none⟩) j j) rfl rfl 24 _ H15.out (S.i24 _ _ _ _) (S.sz S.zero _ none _ 0 0 _ _) (S.one _ _ _ _) ?_))
      refine bodyPost_ret (res_ct rfl _ _ (w.heap.size + 1) 24 _ (0, 0) _ rfl (setRow_heap _ _ _ _ _ _ H15.out) Try.underlying24 rfl (S.i24 _ _ _ _)) rfl ⟨some ⟨w5.heap.size, 0, none⟩, j, by first | (rw [hT]; rfl) | rw [hT], ownBase2 (ownVR O15.out (by have := HQ5.out; omega) _) (by have := HQ5.out; omega), below_setRow B15 (by omega) _⟩
theorem tres_ok (s : S) (A : Option Addr) (n c0 b o : Nat) (xs : Nat → Int) (num den : Int) (kind m : Nat) (hv : vS s n xs = true) (hk : kind ≤ 4) (hr : 1 ≤ num ∧ num ≤ 10000) (hr2 : 1 ≤ den ∧ den ≤ 10000) (hm : (n : Int) * num / den = m) (hm4 : m ≤ 4096) (hn : n ≤ 9223372036854775807) (hc0 : n ≤ c0) (w : World) (hA : DataAt w A n b o xs) : Gives 47 #[.agg (s.cs A n c0), iv num, iv den, iv kind] w (rsmS s num den) m (rsmF s n xs num den kind) 0 := by
  rcases (vS_yes hv).2.1 with h | h
  · exact tres_8 s A n c0 b o xs num den kind m hv h hk hr hr2 hm hm4 hn hc0 w hA
  · exact tres_16 s A n c0 b o xs num den kind m hv h hk hr hr2 hm hm4 hn hc0 w hA
end Go.Proofs.Ytnmoiolddfboiaa.SX

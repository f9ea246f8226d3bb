/- A sample into which a line is drawn: both functions. -/
import Derived.Test.YtnmoiolddfboiaaTzM
namespace Go.Proofs.Ytnmoiolddfboiaa.TZ
open Go.Proofs.Ytnmoiolddfboiaa.TX
open Go.RowKit Go.Proofs.YtnmoiolddfboiaaW.PrintLast
set_option linter.unusedVariables false
set_option linter.unusedSimpArgs false
theorem clp_id {h x : Int} (h0 : -h ≤ x) (h1 : x ≤ h - 1) : clp h x = x := by unfold clp; rw [if_neg (by omega), if_neg (by omega)]
theorem clp_ne {h x : Int} (hh : 1 ≤ h) (h0 : x < -h ∨ h - 1 < x) : clp h x ≠ x := by unfold clp; (repeat' split) <;> omega
set_option maxHeartbeats 16000000 in
set_option maxRecDepth 100000 in
theorem draw_bad (s : S) (A : Option Addr) (n c b o : Nat) (xs : Nat → Int) (w : World) (hA : DataAt w A n b o xs) (hn : (n : Int) ≤ 1000000) (hc : n ≤ c) (fr vl tz la : Int) (hva : vS s n xs = false) :
    Calls Try.prog 56 #[.agg (s.cs A n c), iv fr, iv vl, iv tz, iv la] w fun e w' => e = .returned (.tuple #[.agg (S.zero.cs none 0 0), iv 1]) ∧ Below w.heap.size w w' := by
  have hB0 : Below w.heap.size w ((w.alloc (Obj.cells (s.cs A n c) 24)).alloc (Obj.cells #[Value.string ⟨#[]⟩, Value.slice none 0 0, iv 0, iv 0, iv 0, iv 0, iv 0, iv 0, iv 0, iv 0, iv 0, iv 0, iv 0] 24)) := ((Below.refl _ _).alloc (Nat.le_refl _) _).alloc (by simp) _
  have P0 := Lib.hid (heap_alloc2_old w (Obj.cells (s.cs A n c) 24) (Obj.cells #[Value.string ⟨#[]⟩, Value.slice none 0 0, iv 0, iv 0, iv 0, iv 0, iv 0, iv 0, iv 0, iv 0, iv 0, iv 0, iv 0] 24))
  have R0 := Lib.hid (heap_alloc2_new w (Obj.cells (s.cs A n c) 24) (Obj.cells #[Value.string ⟨#[]⟩, Value.slice none 0 0, iv 0, iv 0, iv 0, iv 0, iv 0, iv 0, iv 0, iv 0, iv 0, iv 0, iv 0] 24))
  have HD := Lib.hid hA
  have TD := Lib.hid hA.top
  clear hA
  have l0 : (0 : Int) ≤ (n : Int) := by omega
  go_enter Try.func56, Try.ntmps56
  go_wp2_with (first
    | (refine wpList_load_row rfl 24 (.tmp 5) rfl (w.heap.size) rfl 24 _ (0, 0) _ P0.out Try.underlying24 rfl (S.i24 _ _ _ _) ?_)
    | (go_at_call 15; (with_reducible refine (valid_any s A n c b o xs (by omega) hc _ (HD.out.later hB0)).mono ?_); rintro e w1 ⟨rfl, hb1⟩; have P1 := Lib.hid (bkBelow P0.out hb1); have R1 := Lib.hid (bkBelow R0.out hb1); have B1 := bdT hB0 hB0.size hb1; have p1 := (bkCell P1.out 1).trans (show _ = some (Value.slice A n c) from rfl); have p2 := (bkCell P1.out 2).trans (show _ = some (iv s.a2) from rfl); simp only [hva])
    | (refine wpBuild0 rfl 24 rfl (S.zero.cs none 0 0) built24 ?_)
    | (refine wpList_store_row rfl 24 (.tmp 10) (.tmp 18) rfl (w.heap.size + 1) (S.zero.cs none 0 0) rfl rfl 24 _ R1.out (S.i24 _ _ _ _) (S.sz S.zero S.zero none none 0 0 0 0) (S.one _ _ _ _) ?_))
  refine bodyPost_ret (res_ct rfl _ _ (w.heap.size + 1) 24 _ (0, 0) _ rfl (setRow_heap _ _ _ _ _ _ R1.out) Try.underlying24 rfl (S.i24 _ _ _ _)) rfl ⟨rfl, below_setRow B1 (by omega) _⟩
set_option maxHeartbeats 16000000 in
set_option maxRecDepth 100000 in
theorem draw_e1 (s : S) (A : Option Addr) (n c b o : Nat) (xs : Nat → Int) (w : World) (hA : DataAt w A n b o xs) (hn : (n : Int) ≤ 1000000) (hc : n ≤ c) (fr vl tz la : Int) (h : Int) (hb : Bits s.a2 h) (hva : vS s n xs = true) (h1 : fr < 0) :
    Calls Try.prog 56 #[.agg (s.cs A n c), iv fr, iv vl, iv tz, iv la] w fun e w' => e = .returned (.tuple #[.agg (S.zero.cs none 0 0), iv 5]) ∧ Below w.heap.size w w' := by
  have hB0 : Below w.heap.size w ((w.alloc (Obj.cells (s.cs A n c) 24)).alloc (Obj.cells #[Value.string ⟨#[]⟩, Value.slice none 0 0, iv 0, iv 0, iv 0, iv 0, iv 0, iv 0, iv 0, iv 0, iv 0, iv 0, iv 0] 24)) := ((Below.refl _ _).alloc (Nat.le_refl _) _).alloc (by simp) _
  have P0 := Lib.hid (heap_alloc2_old w (Obj.cells (s.cs A n c) 24) (Obj.cells #[Value.string ⟨#[]⟩, Value.slice none 0 0, iv 0, iv 0, iv 0, iv 0, iv 0, iv 0, iv 0, iv 0, iv 0, iv 0, iv 0] 24))
  have R0 := Lib.hid (heap_alloc2_new w (Obj.cells (s.cs A n c) 24) (Obj.cells #[Value.string ⟨#[]⟩, Value.slice none 0 0, iv 0, iv 0, iv 0, iv 0, iv 0, iv 0, iv 0, iv 0, iv 0, iv 0, iv 0] 24))
  have HD := Lib.hid hA
  have TD := Lib.hid hA.top
  clear hA
  have l0 : (0 : Int) ≤ (n : Int) := by omega
  have d1 : decide (fr < 0) = true := decide_eq_true (by omega)
  have HBT := Lib.hid hb
  clear hb
  go_enter Try.func56, Try.ntmps56
  go_wp2_with (first
    | (refine wpList_load_row rfl 24 (.tmp 5) rfl (w.heap.size) rfl 24 _ (0, 0) _ P0.out Try.underlying24 rfl (S.i24 _ _ _ _) ?_)
    | (go_at_call 15; (with_reducible refine (valid_any s A n c b o xs (by omega) hc _ (HD.out.later hB0)).mono ?_); rintro e w1 ⟨rfl, hb1⟩; have P1 := Lib.hid (bkBelow P0.out hb1); have R1 := Lib.hid (bkBelow R0.out hb1); have B1 := bdT hB0 hB0.size hb1; have p1 := (bkCell P1.out 1).trans (show _ = some (Value.slice A n c) from rfl); have p2 := (bkCell P1.out 2).trans (show _ = some (iv s.a2) from rfl); simp only [hva])
    | (go_at_call 88; (with_reducible refine (limit_any _ _ HBT.out _).mono ?_); rintro e w0 ⟨rfl, m0, rfl⟩; have P2 := Lib.hid (show (w1.drewN m0).heap[w.heap.size]? = some (.cells (s.cs A n c) 24 (0, 0)) from P1.out); have R2 := Lib.hid (show (w1.drewN m0).heap[w.heap.size + 1]? = some (.cells #[Value.string ⟨#[]⟩, Value.slice none 0 0, iv 0, iv 0, iv 0, iv 0, iv 0, iv 0, iv 0, iv 0, iv 0, iv 0, iv 0] 24 (0, 0)) from R1.out); have B2 := bdN B1 m0; have q1 := (bkCell P2.out 1).trans (show _ = some (Value.slice A n c) from rfl))
    | (refine wpBuild0 rfl 24 rfl (S.zero.cs none 0 0) built24 ?_)
    | (refine wpList_store_row rfl 24 (.tmp 10) (.tmp 53) rfl (w.heap.size + 1) (S.zero.cs none 0 0) rfl rfl 24 _ R2.out (S.i24 _ _ _ _) (S.sz S.zero S.zero none none 0 0 0 0) (S.one _ _ _ _) ?_))
  refine bodyPost_ret (res_ct rfl _ _ (w.heap.size + 1) 24 _ (0, 0) _ rfl (setRow_heap _ _ _ _ _ _ R2.out) Try.underlying24 rfl (S.i24 _ _ _ _)) rfl ⟨rfl, below_setRow B2 (by omega) _⟩
set_option maxHeartbeats 16000000 in
set_option maxRecDepth 100000 in
theorem draw_e2 (s : S) (A : Option Addr) (n c b o : Nat) (xs : Nat → Int) (w : World) (hA : DataAt w A n b o xs) (hn : (n : Int) ≤ 1000000) (hc : n ≤ c) (fr vl tz la : Int) (h : Int) (hb : Bits s.a2 h) (hva : vS s n xs = true) (h1 : 0 ≤ fr) (h2 : tz < fr) :
    Calls Try.prog 56 #[.agg (s.cs A n c), iv fr, iv vl, iv tz, iv la] w fun e w' => e = .returned (.tuple #[.agg (S.zero.cs none 0 0), iv 5]) ∧ Below w.heap.size w w' := by
  have hB0 : Below w.heap.size w ((w.alloc (Obj.cells (s.cs A n c) 24)).alloc (Obj.cells #[Value.string ⟨#[]⟩, Value.slice none 0 0, iv 0, iv 0, iv 0, iv 0, iv 0, iv 0, iv 0, iv 0, iv 0, iv 0, iv 0] 24)) := ((Below.refl _ _).alloc (Nat.le_refl _) _).alloc (by simp) _
  have P0 := Lib.hid (heap_alloc2_old w (Obj.cells (s.cs A n c) 24) (Obj.cells #[Value.string ⟨#[]⟩, Value.slice none 0 0, iv 0, iv 0, iv 0, iv 0, iv 0, iv 0, iv 0, iv 0, iv 0, iv 0, iv 0] 24))
  have R0 := Lib.hid (heap_alloc2_new w (Obj.cells (s.cs A n c) 24) (Obj.cells #[Value.string ⟨#[]⟩, Value.slice none 0 0, iv 0, iv 0, iv 0, iv 0, iv 0, iv 0, iv 0, iv 0, iv 0, iv 0, iv 0] 24))
  have HD := Lib.hid hA
  have TD := Lib.hid hA.top
  clear hA
  have l0 : (0 : Int) ≤ (n : Int) := by omega
  have d1 : decide (fr < 0) = false := decide_eq_false (by omega)
  have d2 : decide (tz < fr) = true := decide_eq_true (by omega)
  have HBT := Lib.hid hb
  clear hb
  go_enter Try.func56, Try.ntmps56
  go_wp2_with (first
    | (refine wpList_load_row rfl 24 (.tmp 5) rfl (w.heap.size) rfl 24 _ (0, 0) _ P0.out Try.underlying24 rfl (S.i24 _ _ _ _) ?_)
    | (go_at_call 15; (with_reducible refine (valid_any s A n c b o xs (by omega) hc _ (HD.out.later hB0)).mono ?_); rintro e w1 ⟨rfl, hb1⟩; have P1 := Lib.hid (bkBelow P0.out hb1); have R1 := Lib.hid (bkBelow R0.out hb1); have B1 := bdT hB0 hB0.size hb1; have p1 := (bkCell P1.out 1).trans (show _ = some (Value.slice A n c) from rfl); have p2 := (bkCell P1.out 2).trans (show _ = some (iv s.a2) from rfl); simp only [hva])
    | (go_at_call 88; (with_reducible refine (limit_any _ _ HBT.out _).mono ?_); rintro e w0 ⟨rfl, m0, rfl⟩; have P2 := Lib.hid (show (w1.drewN m0).heap[w.heap.size]? = some (.cells (s.cs A n c) 24 (0, 0)) from P1.out); have R2 := Lib.hid (show (w1.drewN m0).heap[w.heap.size + 1]? = some (.cells #[Value.string ⟨#[]⟩, Value.slice none 0 0, iv 0, iv 0, iv 0, iv 0, iv 0, iv 0, iv 0, iv 0, iv 0, iv 0, iv 0] 24 (0, 0)) from R1.out); have B2 := bdN B1 m0; have q1 := (bkCell P2.out 1).trans (show _ = some (Value.slice A n c) from rfl))
    | (refine wpBuild0 rfl 24 rfl (S.zero.cs none 0 0) built24 ?_)
    | (refine wpList_store_row rfl 24 (.tmp 10) (.tmp 53) rfl (w.heap.size + 1) (S.zero.cs none 0 0) rfl rfl 24 _ R2.out (S.i24 _ _ _ _) (S.sz S.zero S.zero none none 0 0 0 0) (S.one _ _ _ _) ?_))
  refine bodyPost_ret (res_ct rfl _ _ (w.heap.size + 1) 24 _ (0, 0) _ rfl (setRow_heap _ _ _ _ _ _ R2.out) Try.underlying24 rfl (S.i24 _ _ _ _)) rfl ⟨rfl, below_setRow B2 (by omega) _⟩
set_option maxHeartbeats 16000000 in
set_option maxRecDepth 100000 in
theorem draw_e3 (s : S) (A : Option Addr) (n c b o : Nat) (xs : Nat → Int) (w : World) (hA : DataAt w A n b o xs) (hn : (n : Int) ≤ 1000000) (hc : n ≤ c) (fr vl tz la : Int) (h : Int) (hb : Bits s.a2 h) (hva : vS s n xs = true) (h1 : 0 ≤ fr) (h2 : fr ≤ tz) (h3 : (n : Int) ≤ tz) :
    Calls Try.prog 56 #[.agg (s.cs A n c), iv fr, iv vl, iv tz, iv la] w fun e w' => e = .returned (.tuple #[.agg (S.zero.cs none 0 0), iv 5]) ∧ Below w.heap.size w w' := by
  have hB0 : Below w.heap.size w ((w.alloc (Obj.cells (s.cs A n c) 24)).alloc (Obj.cells #[Value.string ⟨#[]⟩, Value.slice none 0 0, iv 0, iv 0, iv 0, iv 0, iv 0, iv 0, iv 0, iv 0, iv 0, iv 0, iv 0] 24)) := ((Below.refl _ _).alloc (Nat.le_refl _) _).alloc (by simp) _
  have P0 := Lib.hid (heap_alloc2_old w (Obj.cells (s.cs A n c) 24) (Obj.cells #[Value.string ⟨#[]⟩, Value.slice none 0 0, iv 0, iv 0, iv 0, iv 0, iv 0, iv 0, iv 0, iv 0, iv 0, iv 0, iv 0] 24))
  have R0 := Lib.hid (heap_alloc2_new w (Obj.cells (s.cs A n c) 24) (Obj.cells #[Value.string ⟨#[]⟩, Value.slice none 0 0, iv 0, iv 0, iv 0, iv 0, iv 0, iv 0, iv 0, iv 0, iv 0, iv 0, iv 0] 24))
  have HD := Lib.hid hA
  have TD := Lib.hid hA.top
  clear hA
  have l0 : (0 : Int) ≤ (n : Int) := by omega
  have d1 : decide (fr < 0) = false := decide_eq_false (by omega)
  have d2 : decide (tz < fr) = false := decide_eq_false (by omega)
  have d3 : decide ((n : Int) ≤ tz) = true := decide_eq_true (by omega)
  have HBT := Lib.hid hb
  clear hb
  go_enter Try.func56, Try.ntmps56
  go_wp2_with (first
    | (refine wpList_load_row rfl 24 (.tmp 5) rfl (w.heap.size) rfl 24 _ (0, 0) _ P0.out Try.underlying24 rfl (S.i24 _ _ _ _) ?_)
    | (go_at_call 15; (with_reducible refine (valid_any s A n c b o xs (by omega) hc _ (HD.out.later hB0)).mono ?_); rintro e w1 ⟨rfl, hb1⟩; have P1 := Lib.hid (bkBelow P0.out hb1); have R1 := Lib.hid (bkBelow R0.out hb1); have B1 := bdT hB0 hB0.size hb1; have p1 := (bkCell P1.out 1).trans (show _ = some (Value.slice A n c) from rfl); have p2 := (bkCell P1.out 2).trans (show _ = some (iv s.a2) from rfl); simp only [hva])
    | (go_at_call 88; (with_reducible refine (limit_any _ _ HBT.out _).mono ?_); rintro e w0 ⟨rfl, m0, rfl⟩; have P2 := Lib.hid (show (w1.drewN m0).heap[w.heap.size]? = some (.cells (s.cs A n c) 24 (0, 0)) from P1.out); have R2 := Lib.hid (show (w1.drewN m0).heap[w.heap.size + 1]? = some (.cells #[Value.string ⟨#[]⟩, Value.slice none 0 0, iv 0, iv 0, iv 0, iv 0, iv 0, iv 0, iv 0, iv 0, iv 0, iv 0, iv 0] 24 (0, 0)) from R1.out); have B2 := bdN B1 m0; have q1 := (bkCell P2.out 1).trans (show _ = some (Value.slice A n c) from rfl))
    | (refine wpBuild0 rfl 24 rfl (S.zero.cs none 0 0) built24 ?_)
    | (refine wpList_store_row rfl 24 (.tmp 10) (.tmp 53) rfl (w.heap.size + 1) (S.zero.cs none 0 0) rfl rfl 24 _ R2.out (S.i24 _ _ _ _) (S.sz S.zero S.zero none none 0 0 0 0) (S.one _ _ _ _) ?_))
  refine bodyPost_ret (res_ct rfl _ _ (w.heap.size + 1) 24 _ (0, 0) _ rfl (setRow_heap _ _ _ _ _ _ R2.out) Try.underlying24 rfl (S.i24 _ _ _ _)) rfl ⟨rfl, below_setRow B2 (by omega) _⟩
set_option maxHeartbeats 16000000 in
set_option maxRecDepth 100000 in
theorem draw_e4 (s : S) (A : Option Addr) (n c b o : Nat) (xs : Nat → Int) (w : World) (hA : DataAt w A n b o xs) (hn : (n : Int) ≤ 1000000) (hc : n ≤ c) (fr vl tz la : Int) (h : Int) (hb : Bits s.a2 h) (hva : vS s n xs = true) (h1 : 0 ≤ fr) (h2 : fr ≤ tz) (h3 : tz < (n : Int)) (h4 : (vl < -h ∨ h - 1 < vl)) :
    Calls Try.prog 56 #[.agg (s.cs A n c), iv fr, iv vl, iv tz, iv la] w fun e w' => e = .returned (.tuple #[.agg (S.zero.cs none 0 0), iv 5]) ∧ Below w.heap.size w w' := by
  have hB0 : Below w.heap.size w ((w.alloc (Obj.cells (s.cs A n c) 24)).alloc (Obj.cells #[Value.string ⟨#[]⟩, Value.slice none 0 0, iv 0, iv 0, iv 0, iv 0, iv 0, iv 0, iv 0, iv 0, iv 0, iv 0, iv 0] 24)) := ((Below.refl _ _).alloc (Nat.le_refl _) _).alloc (by simp) _
  have P0 := Lib.hid (heap_alloc2_old w (Obj.cells (s.cs A n c) 24) (Obj.cells #[Value.string ⟨#[]⟩, Value.slice none 0 0, iv 0, iv 0, iv 0, iv 0, iv 0, iv 0, iv 0, iv 0, iv 0, iv 0, iv 0] 24))
  have R0 := Lib.hid (heap_alloc2_new w (Obj.cells (s.cs A n c) 24) (Obj.cells #[Value.string ⟨#[]⟩, Value.slice none 0 0, iv 0, iv 0, iv 0, iv 0, iv 0, iv 0, iv 0, iv 0, iv 0, iv 0, iv 0] 24))
  have HD := Lib.hid hA
  have TD := Lib.hid hA.top
  clear hA
  have l0 : (0 : Int) ≤ (n : Int) := by omega
  have d1 : decide (fr < 0) = false := decide_eq_false (by omega)
  have d2 : decide (tz < fr) = false := decide_eq_false (by omega)
  have d3 : decide ((n : Int) ≤ tz) = false := decide_eq_false (by omega)
  have H4 := Lib.hid h4
  clear h4
  have HBT := Lib.hid hb
  clear hb
  go_enter Try.func56, Try.ntmps56
  go_wp2_with (first
    | (refine wpList_load_row rfl 24 (.tmp 5) rfl (w.heap.size) rfl 24 _ (0, 0) _ P0.out Try.underlying24 rfl (S.i24 _ _ _ _) ?_)
    | (go_at_call 15; (with_reducible refine (valid_any s A n c b o xs (by omega) hc _ (HD.out.later hB0)).mono ?_); rintro e w1 ⟨rfl, hb1⟩; have P1 := Lib.hid (bkBelow P0.out hb1); have R1 := Lib.hid (bkBelow R0.out hb1); have B1 := bdT hB0 hB0.size hb1; have p1 := (bkCell P1.out 1).trans (show _ = some (Value.slice A n c) from rfl); have p2 := (bkCell P1.out 2).trans (show _ = some (iv s.a2) from rfl); simp only [hva])
    | (go_at_call 88; (with_reducible refine (limit_any _ _ HBT.out _).mono ?_); rintro e w0 ⟨rfl, m0, rfl⟩; have P2 := Lib.hid (show (w1.drewN m0).heap[w.heap.size]? = some (.cells (s.cs A n c) 24 (0, 0)) from P1.out); have R2 := Lib.hid (show (w1.drewN m0).heap[w.heap.size + 1]? = some (.cells #[Value.string ⟨#[]⟩, Value.slice none 0 0, iv 0, iv 0, iv 0, iv 0, iv 0, iv 0, iv 0, iv 0, iv 0, iv 0, iv 0] 24 (0, 0)) from R1.out); have B2 := bdN B1 m0; have q1 := (bkCell P2.out 1).trans (show _ = some (Value.slice A n c) from rfl))
    | (go_at_call 87; (with_reducible refine (in_no vl (-h) (h - 1) _ H4.out).mono ?_); rintro e w5 ⟨rfl, rfl⟩)
    | (refine wpBuild0 rfl 24 rfl (S.zero.cs none 0 0) built24 ?_)
    | (refine wpList_store_row rfl 24 (.tmp 10) (.tmp 53) rfl (w.heap.size + 1) (S.zero.cs none 0 0) rfl rfl 24 _ R2.out (S.i24 _ _ _ _) (S.sz S.zero S.zero none none 0 0 0 0) (S.one _ _ _ _) ?_))
  refine bodyPost_ret (res_ct rfl _ _ (w.heap.size + 1) 24 _ (0, 0) _ rfl (setRow_heap _ _ _ _ _ _ R2.out) Try.underlying24 rfl (S.i24 _ _ _ _)) rfl ⟨rfl, below_setRow B2 (by omega) _⟩
set_option maxHeartbeats 16000000 in
set_option maxRecDepth 100000 in
theorem draw_e5 (s : S) (A : Option Addr) (n c b o : Nat) (xs : Nat → Int) (w : World) (hA : DataAt w A n b o xs) (hn : (n : Int) ≤ 1000000) (hc : n ≤ c) (fr vl tz la : Int) (h : Int) (hb : Bits s.a2 h) (hva : vS s n xs = true) (h1 : 0 ≤ fr) (h2 : fr ≤ tz) (h3 : tz < (n : Int)) (h5 : (-h ≤ vl ∧ vl ≤ h - 1)) (h4 : (la < -h ∨ h - 1 < la)) :
    Calls Try.prog 56 #[.agg (s.cs A n c), iv fr, iv vl, iv tz, iv la] w fun e w' => e = .returned (.tuple #[.agg (S.zero.cs none 0 0), iv 5]) ∧ Below w.heap.size w w' := by
  have hB0 : Below w.heap.size w ((w.alloc (Obj.cells (s.cs A n c) 24)).alloc (Obj.cells #[Value.string ⟨#[]⟩, Value.slice none 0 0, iv 0, iv 0, iv 0, iv 0, iv 0, iv 0, iv 0, iv 0, iv 0, iv 0, iv 0] 24)) := ((Below.refl _ _).alloc (Nat.le_refl _) _).alloc (by simp) _
  have P0 := Lib.hid (heap_alloc2_old w (Obj.cells (s.cs A n c) 24) (Obj.cells #[Value.string ⟨#[]⟩, Value.slice none 0 0, iv 0, iv 0, iv 0, iv 0, iv 0, iv 0, iv 0, iv 0, iv 0, iv 0, iv 0] 24))
  have R0 := Lib.hid (heap_alloc2_new w (Obj.cells (s.cs A n c) 24) (Obj.cells #[Value.string ⟨#[]⟩, Value.slice none 0 0, iv 0, iv 0, iv 0, iv 0, iv 0, iv 0, iv 0, iv 0, iv 0, iv 0, iv 0] 24))
  have HD := Lib.hid hA
  have TD := Lib.hid hA.top
  clear hA
  have l0 : (0 : Int) ≤ (n : Int) := by omega
  have d1 : decide (fr < 0) = false := decide_eq_false (by omega)
  have d2 : decide (tz < fr) = false := decide_eq_false (by omega)
  have d3 : decide ((n : Int) ≤ tz) = false := decide_eq_false (by omega)
  have H4 := Lib.hid h4
  clear h4
  have H5 := Lib.hid h5
  clear h5
  have HBT := Lib.hid hb
  clear hb
  go_enter Try.func56, Try.ntmps56
  go_wp2_with (first
    | (refine wpList_load_row rfl 24 (.tmp 5) rfl (w.heap.size) rfl 24 _ (0, 0) _ P0.out Try.underlying24 rfl (S.i24 _ _ _ _) ?_)
    | (go_at_call 15; (with_reducible refine (valid_any s A n c b o xs (by omega) hc _ (HD.out.later hB0)).mono ?_); rintro e w1 ⟨rfl, hb1⟩; have P1 := Lib.hid (bkBelow P0.out hb1); have R1 := Lib.hid (bkBelow R0.out hb1); have B1 := bdT hB0 hB0.size hb1; have p1 := (bkCell P1.out 1).trans (show _ = some (Value.slice A n c) from rfl); have p2 := (bkCell P1.out 2).trans (show _ = some (iv s.a2) from rfl); simp only [hva])
    | (go_at_call 88; (with_reducible refine (limit_any _ _ HBT.out _).mono ?_); rintro e w0 ⟨rfl, m0, rfl⟩; have P2 := Lib.hid (show (w1.drewN m0).heap[w.heap.size]? = some (.cells (s.cs A n c) 24 (0, 0)) from P1.out); have R2 := Lib.hid (show (w1.drewN m0).heap[w.heap.size + 1]? = some (.cells #[Value.string ⟨#[]⟩, Value.slice none 0 0, iv 0, iv 0, iv 0, iv 0, iv 0, iv 0, iv 0, iv 0, iv 0, iv 0, iv 0] 24 (0, 0)) from R1.out); have B2 := bdN B1 m0; have q1 := (bkCell P2.out 1).trans (show _ = some (Value.slice A n c) from rfl))
    | (go_at_call 87; (with_reducible refine (in_yes vl (-h) (h - 1) _ H5.out.1 H5.out.2).mono ?_); rintro e w5 ⟨rfl, rfl⟩)
    | (go_at_call 87; (with_reducible refine (in_no la (-h) (h - 1) _ H4.out).mono ?_); rintro e w5 ⟨rfl, rfl⟩)
    | (refine wpBuild0 rfl 24 rfl (S.zero.cs none 0 0) built24 ?_)
    | (refine wpList_store_row rfl 24 (.tmp 10) (.tmp 53) rfl (w.heap.size + 1) (S.zero.cs none 0 0) rfl rfl 24 _ R2.out (S.i24 _ _ _ _) (S.sz S.zero S.zero none none 0 0 0 0) (S.one _ _ _ _) ?_))
  refine bodyPost_ret (res_ct rfl _ _ (w.heap.size + 1) 24 _ (0, 0) _ rfl (setRow_heap _ _ _ _ _ _ R2.out) Try.underlying24 rfl (S.i24 _ _ _ _)) rfl ⟨rfl, below_setRow B2 (by omega) _⟩
def dv (vl la : Int) (f z i : Nat) : Int := if f < z then vl + fq vl la f z i else vl
/-- a frame of the sample with the line -/
def dG (xs : Nat → Int) (vl la : Int) (f z i : Nat) : Int := if f ≤ i ∧ i < z + 1 then dv vl la f z i else xs i
theorem line_facts {vl la h : Int} {f z j n : Nat} (hh : 1 ≤ h ∧ h ≤ 32768) (hv : -h ≤ vl ∧ vl ≤ h - 1) (hl : -h ≤ la ∧ la ≤ h - 1) (h1 : f ≤ j) (h2 : j < z + 1) (h4 : f < z) (h3 : z < n) (hn : (n : Int) ≤ 4096) (q : Int) (hq : q = fq vl la f z j) :
    wrap64 (la - vl) = la - vl ∧ wrap64 ((j : Int) - f) = (j : Int) - f ∧ wrap64 ((la - vl) * ((j : Int) - f)) = (la - vl) * ((j : Int) - f) ∧ wrap64 ((z : Int) - f) = (z : Int) - f ∧ wrap64 (vl + q) = vl + q ∧
    (-1000000000000000 ≤ (la - vl) * ((j : Int) - f) ∧ (la - vl) * ((j : Int) - f) ≤ 1000000000000000) ∧ (0 < (z : Int) - f ∧ (z : Int) - f ≤ 1000000000000000) ∧ -h ≤ vl + q ∧ vl + q ≤ h - 1 := by
  have a1 := mulB (a := la - vl) (b := (j : Int) - f) (A := 65536) (B := 4096) ⟨by omega, by omega⟩ ⟨by omega, by omega⟩
  have hd : (0 : Int) < (z : Int) - f := by omega
  have a3 : -h ≤ vl + q ∧ vl + q ≤ h - 1 := by
    rw [hq]
    unfold fq
    rcases Int.lt_or_le la vl with hc | hc
    · have b1 : (la - vl) * ((j : Int) - f) ≤ 0 := Int.mul_nonpos_of_nonpos_of_nonneg (by omega) (by omega)
      have b2 : (la - vl) * ((z : Int) - f) ≤ (la - vl) * ((j : Int) - f) := Int.mul_le_mul_of_nonpos_left (by omega) (by omega)
      have c1 : la - vl ≤ (la - vl) * ((j : Int) - f) / ((z : Int) - f) := Int.le_ediv_of_mul_le hd b2
      have c2 : (la - vl) * ((j : Int) - f) / ((z : Int) - f) ≤ 0 := Int.ediv_le_of_le_mul hd (by rw [Int.zero_mul]; exact b1)
      exact ⟨by omega, by omega⟩
    · have b1 : 0 ≤ (la - vl) * ((j : Int) - f) := Int.mul_nonneg (by omega) (by omega)
      have b2 : (la - vl) * ((j : Int) - f) ≤ (la - vl) * ((z : Int) - f) := Int.mul_le_mul_of_nonneg_left (by omega) (by omega)
      have c1 : (la - vl) * ((j : Int) - f) / ((z : Int) - f) ≤ la - vl := Int.ediv_le_of_le_mul hd b2
      have c2 : 0 ≤ (la - vl) * ((j : Int) - f) / ((z : Int) - f) := Int.ediv_nonneg b1 (by omega)
      exact ⟨by omega, by omega⟩
  clear hq
  exact ⟨wrap_in (by omega) (by omega), wrap_in (by omega) (by omega), wrap_in (by omega) (by omega), wrap_in (by omega) (by omega), wrap_in (by omega) (by omega), ⟨by omega, by omega⟩, ⟨by omega, by omega⟩, a3⟩
theorem line_clp {xs : Nat → Int} {vl la h : Int} {f z i n : Nat} (hh : 1 ≤ h ∧ h ≤ 32768) (hv : -h ≤ vl ∧ vl ≤ h - 1) (hl : -h ≤ la ∧ la ≤ h - 1) (h4 : f ≤ z) (h3 : z < n) (hn : (n : Int) ≤ 4096) (hx : -h ≤ xs i ∧ xs i ≤ h - 1) :
    clp h (if i = f then vl else if f ≤ i ∧ i < z + 1 then dv vl la f z i else xs i) = dG xs vl la f z i := by
  unfold dG
  by_cases e : i = f
  · subst e
    rw [if_pos rfl, if_pos (by omega), clp_id hv.1 hv.2]
    unfold dv
    by_cases hz : i < z
    · rw [if_pos hz]
      have : fq vl la i z i = 0 := by unfold fq; rw [Int.sub_self, Int.mul_zero, Int.zero_ediv]
      rw [this, Int.add_zero]
    · rw [if_neg hz]
  · rw [if_neg e]
    by_cases e2 : f ≤ i ∧ i < z + 1
    · rw [if_pos e2]
      have hz : f < z := by omega
      obtain ⟨-, -, -, -, -, -, -, h9⟩ := line_facts hh hv hl e2.1 e2.2 hz h3 hn _ rfl
      unfold dv
      rw [if_pos hz, clp_id h9.1 h9.2]
    · rw [if_neg e2, clp_id hx.1 hx.2]
set_option maxHeartbeats 16000000 in
set_option maxRecDepth 100000 in
theorem draw_ok (s : S) (A : Option Addr) (n c b o : Nat) (xs : Nat → Int) (w : World) (hA : DataAt w A n b o xs) (hn : (n : Int) ≤ 1000000) (hc : n ≤ c) (vl la : Int) (f z : Nat) (h : Int) (hb : Bits s.a2 h) (hva : vS s n xs = true) (h2 : f ≤ z) (h3 : z < n) (h5 : -h ≤ vl ∧ vl ≤ h - 1) (h6 : -h ≤ la ∧ la ≤ h - 1) (hn4 : (n : Int) ≤ 4096) :
    Calls Try.prog 56 #[.agg (s.cs A n c), iv f, iv vl, iv z, iv la] w fun e w' => ∃ A' c' b o, e = .returned (.tuple #[.agg (s.cs A' n c'), iv 0]) ∧ DataAt w' A' n b o (dG xs vl la f z) ∧ Below w.heap.size w w' := by
  have hB0 : Below w.heap.size w ((w.alloc (Obj.cells (s.cs A n c) 24)).alloc (Obj.cells #[Value.string ⟨#[]⟩, Value.slice none 0 0, iv 0, iv 0, iv 0, iv 0, iv 0, iv 0, iv 0, iv 0, iv 0, iv 0, iv 0] 24)) := ((Below.refl _ _).alloc (Nat.le_refl _) _).alloc (by simp) _
  have P0 := Lib.hid (heap_alloc2_old w (Obj.cells (s.cs A n c) 24) (Obj.cells #[Value.string ⟨#[]⟩, Value.slice none 0 0, iv 0, iv 0, iv 0, iv 0, iv 0, iv 0, iv 0, iv 0, iv 0, iv 0, iv 0] 24))
  have R0 := Lib.hid (heap_alloc2_new w (Obj.cells (s.cs A n c) 24) (Obj.cells #[Value.string ⟨#[]⟩, Value.slice none 0 0, iv 0, iv 0, iv 0, iv 0, iv 0, iv 0, iv 0, iv 0, iv 0, iv 0, iv 0] 24))
  have HD := Lib.hid hA
  have TD := Lib.hid hA.top
  clear hA
  have l0 : (0 : Int) ≤ (n : Int) := by omega
  have HBD := Lib.hid (bits_bd hb)
  have HBT := Lib.hid hb
  have HU := Lib.hid (show f ≤ z ∧ z < n ∧ (n : Int) ≤ 4096 ∧ n ≤ 1000000 from ⟨h2, h3, hn4, by omega⟩)
  have H5 := Lib.hid h5
  have H6 := Lib.hid h6
  have d1 : decide ((f : Int) < 0) = false := decide_eq_false (by omega)
  have d2 : decide ((z : Int) < (f : Int)) = false := decide_eq_false (by omega)
  have n2 : decide (z < f) = false := decide_eq_false (by omega)
  have n3 : (z < f) = False := eq_false (by omega)
  have d3 : decide ((n : Int) ≤ (z : Int)) = false := decide_eq_false (by omega)
  have n4 : decide (n ≤ z) = false := decide_eq_false (by omega)
  have n5 : (n ≤ z) = False := eq_false (by omega)
  clear hb h2 h3 h5 h6 hn4
  go_enter Try.func56, Try.ntmps56
  go_upto_region 6 with (first
    | (refine wpList_load_row rfl 24 (.tmp 5) rfl (w.heap.size) rfl 24 _ (0, 0) _ P0.out Try.underlying24 rfl (S.i24 _ _ _ _) ?_)
    | (go_at_call 15; (with_reducible refine (valid_any s A n c b o xs (by omega) hc _ (HD.out.later hB0)).mono ?_); rintro e w1 ⟨rfl, hb1⟩; have P1 := Lib.hid (bkBelow P0.out hb1); have R1 := Lib.hid (bkBelow R0.out hb1); have B1 := bdT hB0 hB0.size hb1; have p1 := (bkCell P1.out 1).trans (show _ = some (Value.slice A n c) from rfl); have p2 := (bkCell P1.out 2).trans (show _ = some (iv s.a2) from rfl); simp only [hva])
    | (go_at_call 88; (with_reducible refine (limit_any _ _ HBT.out _).mono ?_); rintro e w0 ⟨rfl, m0, rfl⟩; have P2 := Lib.hid (show (w1.drewN m0).heap[w.heap.size]? = some (.cells (s.cs A n c) 24 (0, 0)) from P1.out); have R2 := Lib.hid (show (w1.drewN m0).heap[w.heap.size + 1]? = some (.cells #[Value.string ⟨#[]⟩, Value.slice none 0 0, iv 0, iv 0, iv 0, iv 0, iv 0, iv 0, iv 0, iv 0, iv 0, iv 0, iv 0] 24 (0, 0)) from R1.out); have B2 := bdN B1 m0; have q1 := (bkCell P2.out 1).trans (show _ = some (Value.slice A n c) from rfl))
    | (go_at_call 87; (with_reducible refine (in_yes vl (-h) (h - 1) _ H5.out.1 H5.out.2).mono ?_); rintro e w5 ⟨rfl, rfl⟩)
    | (go_at_call 87; (with_reducible refine (in_yes la (-h) (h - 1) _ H6.out.1 H6.out.2).mono ?_); rintro e w5 ⟨rfl, rfl⟩))
  have CL := Lib.hid (clone_any A n c b o xs HU.out.2.2.2 (w1.drewN m0) (HD.out.later B2))
  have f1 := bkFrozen P2.out 1
  go_upto_region 8 with (go_at_call 76; (with_reducible refine CL.out.mono ?_); rintro e w2 ⟨v5, rfl, O5, hb2⟩; obtain ⟨g5, cap5, rfl, hg5⟩ := ownPos O5 (by have := HU.out; omega); have P3 := Lib.hid (bkBelow P2.out hb2); have R3 := Lib.hid (bkBelow R2.out hb2); have B3 := bdT B2 B2.size hb2; have q3 := (bkCell P3.out 1).trans (show _ = some (Value.slice A n c) from rfl); have f3 := bkFrozen P3.out 1)
  have hP2 := bkLt P1.out
  have hR2 := bkLt R1.out
  have P4 := Lib.hid (bkPut P3.out 1 (.slice (some ⟨g5, 0, none⟩) n cap5) (S.set1 s A (some ⟨g5, 0, none⟩) n c n cap5))
  have R4 := Lib.hid (bkFar R3.out (p := ⟨w.heap.size, 1, none⟩) (by simp) (.slice (some ⟨g5, 0, none⟩) n cap5))
  have hg5' : w1.heap.size ≤ g5 := hg5
  have O4 := Lib.hid (ownLow (ownCell O5 (p := ⟨w.heap.size, 1, none⟩) (by simp; omega) (.slice (some ⟨g5, 0, none⟩) n cap5)) (B' := w1.heap.size) (Nat.le_refl _))
  have B4 := B3.setCell (p := ⟨w.heap.size, 1, none⟩) (by simp) (.slice (some ⟨g5, 0, none⟩) n cap5)
  have HG := Lib.hid (show w1.heap.size ≤ g5 ∧ w.heap.size < w1.heap.size ∧ w.heap.size + 1 < w1.heap.size from ⟨hg5', hP2, hR2⟩)
  clear hg5 hg5' hP2 hR2 O5 P3 R3 B3 q3 f3 f1 q1 p1 p2 d1 d2 d3 n2 n3 n4 n5
  go_loopw [14] (fun v wr => ∃ (j : Nat) (F : Nat → Int), f ≤ j ∧ j ≤ z + 1 ∧ v = iv j ∧ (∀ i, i < n → F i = if f ≤ i ∧ i < j then dv vl la f z i else xs i) ∧ wr.heap[w.heap.size]? = some (.cells (s.cs (some ⟨g5, 0, none⟩) n cap5) 24 (0, 0)) ∧ wr.heap[w.heap.size + 1]? = some (.cells #[Value.string ⟨#[]⟩, Value.slice none 0 0, iv 0, iv 0, iv 0, iv 0, iv 0, iv 0, iv 0, iv 0, iv 0, iv 0, iv 0] 24 (0, 0)) ∧ wr.ownsRow w1.heap.size 3 1 (.slice (some ⟨g5, 0, none⟩) n cap5) n (rw_ F n) ∧ Below w.heap.size w wr) (fun v _ => z + 1 - (intOf v).toNat)
  case atStart => exact ⟨f, xs, by omega, by have := HU.out; omega, rfl, fun i hi => by rw [if_neg (by omega)], P4.out, R4.out, O4.out, B4⟩
  case round =>
    clear P4 R4 O4 B4
    obtain ⟨j, F, hj0, hj, rfl, hF, hP, hR, hO, hB⟩ := hrel
    have NF := Lib.hid hF
    have NP := Lib.hid hP
    have NR := Lib.hid hR
    have NO := Lib.hid hO
    have NB := Lib.hid hB
    have l3 : (0 : Int) ≤ (j : Int) := by omega
    have HJ := Lib.hid (And.intro hj0 hj)
    clear hF hP hR hO hj0
    by_cases hlt : j ≤ z
    · have l4 : (j : Int) ≤ (z : Int) := by omega
      have HK := Lib.hid (show j < n by have := HU.out; omega)
      have l5 : (j : Int) < (n : Int) := by have := HK.out; omega
      have q1 := (bkCell NP.out 1).trans (show _ = some (Value.slice (some ⟨g5, 0, none⟩) n cap5) from rfl)
      have s4 := (NO.out.cellAt j (by have := HK.out; omega)).trans (rw_at F n j HK.out)
      have f4 := NO.out.frozenAt j
      have P7 := Lib.hid (bkFar NP.out (p := ⟨g5, j, none⟩) (by have := HG.out; simp; omega) (iv vl))
      have R7 := Lib.hid (bkFar NR.out (p := ⟨g5, j, none⟩) (by have := HG.out; simp; omega) (iv vl))
      have O7 := Lib.hid (ownN (NO.out.stored j (iv vl)).1 (rw_set F n j vl))
      have B7 := Lib.hid (hB.setCell (p := ⟨g5, j, none⟩) (by have := HG.out; simp; omega) (iv vl))
      have s7 : (wr.setCell ⟨g5, j, none⟩ (iv vl)).cell? ⟨g5, j, none⟩ = some (iv vl) := (O7.out.cellAt j (by have := HK.out; omega)).trans ((rw_at (fun i => if i = j then vl else F i) n j HK.out).trans (by simp))
      by_cases hfz : f < z
      · have k1 : decide ((f : Int) < (z : Int)) = true := decide_eq_true (by omega)
        have k2 : decide (f < z) = true := decide_eq_true hfz
        have k3 : (f < z) = True := eq_true hfz
        go_upto_region 12 with (fail)
        obtain ⟨q, hq⟩ : ∃ q, q = fq vl la f z j := ⟨_, rfl⟩
        obtain ⟨f1, f2, f3, f5', f5, f7, f8, f9⟩ := line_facts HBD.out H5.out H6.out HJ.out.1 (Nat.lt_succ_of_le hlt) hfz HU.out.2.1 HU.out.2.2.1 q hq
        have FC := Lib.hid (fun W => hq ▸ floor_any ((la - vl) * ((j : Int) - f)) ((z : Int) - f) f7.1 f7.2 f8.1 f8.2 W : ∀ W, Calls Try.prog 99 #[iv ((la - vl) * ((j : Int) - f)), iv ((z : Int) - f)] W fun e w' => e = .returned (iv q) ∧ W = w')
        have HQ := Lib.hid hq
        clear f7 f8 f9 hq q1 s4 f4
        have f4 := f5'
        clear f5'
        refine start_ (n := 19) (S := fun w' => w'.heap[w.heap.size]? = some (.cells (s.cs (some ⟨g5, 0, none⟩) n cap5) 24 (0, 0)) ∧ w'.cell? ⟨g5, j, none⟩ = some (iv vl) ∧ w'.heap[w.heap.size + 1]? = some (.cells #[Value.string ⟨#[]⟩, Value.slice none 0 0, iv 0, iv 0, iv 0, iv 0, iv 0, iv 0, iv 0, iv 0, iv 0, iv 0, iv 0] 24 (0, 0)) ∧ w'.ownsRow w1.heap.size 3 1 (.slice (some ⟨g5, 0, none⟩) n cap5) n (rw_ (fun i => if i = j then vl else F i) n) ∧ Below w.heap.size w w') (ds := [18]) #[false, false, false, false, false, false, false, false, false, false, false, false, false, false, false, false, false, false, false] (by kernel_rfl) rfl rfl ⟨P7.out, s7, R7.out, O7.out.drew, B7.out.drew⟩ (fun hHeld => ?_)
        refine pure_ (i := 0) (N := some 72) (v := ?_) (a' := ?_) #[true, false, false, false, false, false, false, false, false, false, false, false, false, false, false, false, false, false, false] rfl rfl (by kernel_rfl) (fun _ _ _ h => h) (Or.inl ⟨by rfl, ?_⟩) ?_ ?_
        rotate_left
        · intro w'
          go_simp
          with_reducible rfl
        rotate_left
        · simp only [Act.put, List.setIfInBounds_toArray, List.set_cons_zero, List.set_cons_succ, i64_w, i32_w, f1, f2, f3, f4, f5]
          rfl
        refine pure_ (i := 2) (N := some 74) (v := ?_) (a' := ?_) #[true, false, true, false, false, false, false, false, false, false, false, false, false, false, false, false, false, false, false] rfl rfl (by kernel_rfl) (fun _ _ _ h => h) (Or.inl ⟨by rfl, ?_⟩) ?_ ?_
        rotate_left
        · intro w'
          go_simp
          with_reducible rfl
        rotate_left
        · simp only [Act.put, List.setIfInBounds_toArray, List.set_cons_zero, List.set_cons_succ, i64_w, i32_w, f1, f2, f3, f4, f5]
          rfl
        refine pure_ (i := 5) (N := some 77) (v := ?_) (a' := ?_) #[true, false, true, false, false, true, false, false, false, false, false, false, false, false, false, false, false, false, false] rfl rfl (by kernel_rfl) (fun _ _ _ h => h) (Or.inl ⟨by rfl, ?_⟩) ?_ ?_
        rotate_left
        · intro w'
          go_simp
          with_reducible rfl
        rotate_left
        · simp only [Act.put, List.setIfInBounds_toArray, List.set_cons_zero, List.set_cons_succ, i64_w, i32_w, f1, f2, f3, f4, f5]
          rfl
        refine pure_ (i := 6) (N := some 78) (v := ?_) (a' := ?_) #[true, false, true, false, false, true, true, false, false, false, false, false, false, false, false, false, false, false, false] rfl rfl (by kernel_rfl) (fun _ _ _ h => h) (Or.inl ⟨by rfl, ?_⟩) ?_ ?_
        rotate_left
        · intro w'
          go_simp
          with_reducible rfl
        rotate_left
        · simp only [Act.put, List.setIfInBounds_toArray, List.set_cons_zero, List.set_cons_succ, i64_w, i32_w, f1, f2, f3, f4, f5]
          rfl
        refine pure_ (i := 7) (N := some 79) (v := ?_) (a' := ?_) #[true, false, true, false, false, true, true, true, false, false, false, false, false, false, false, false, false, false, false] rfl rfl (by kernel_rfl) (fun _ _ _ h => h) (Or.inl ⟨by rfl, ?_⟩) ?_ ?_
        rotate_left
        · intro w'
          go_simp
          with_reducible rfl
        rotate_left
        · simp only [Act.put, List.setIfInBounds_toArray, List.set_cons_zero, List.set_cons_succ, i64_w, i32_w, f1, f2, f3, f4, f5]
          rfl
        refine pure_ (i := 8) (N := some 80) (v := ?_) (a' := ?_) #[true, false, true, false, false, true, true, true, true, false, false, false, false, false, false, false, false, false, false] rfl rfl (by kernel_rfl) (fun _ _ _ h => h) (Or.inl ⟨by rfl, ?_⟩) ?_ ?_
        rotate_left
        · intro w'
          go_simp
          with_reducible rfl
        rotate_left
        · simp only [Act.put, List.setIfInBounds_toArray, List.set_cons_zero, List.set_cons_succ, i64_w, i32_w, f1, f2, f3, f4, f5]
          rfl
        refine pure_ (i := 9) (N := some 81) (v := ?_) (a' := ?_) #[true, false, true, false, false, true, true, true, true, true, false, false, false, false, false, false, false, false, false] rfl rfl (by kernel_rfl) (fun _ _ _ h => h) (Or.inl ⟨by rfl, ?_⟩) ?_ ?_
        rotate_left
        · intro w'
          go_simp
          with_reducible rfl
        rotate_left
        · simp only [Act.put, List.setIfInBounds_toArray, List.set_cons_zero, List.set_cons_succ, i64_w, i32_w, f1, f2, f3, f4, f5]
          rfl
        refine pure_ (i := 10) (N := some 82) (v := ?_) (a' := ?_) #[true, false, true, false, false, true, true, true, true, true, true, false, false, false, false, false, false, false, false] rfl rfl (by kernel_rfl) (fun _ _ _ h => h) (Or.inl ⟨by rfl, ?_⟩) ?_ ?_
        rotate_left
        · intro w'
          go_simp
          with_reducible rfl
        rotate_left
        · simp only [Act.put, List.setIfInBounds_toArray, List.set_cons_zero, List.set_cons_succ, i64_w, i32_w, f1, f2, f3, f4, f5]
          rfl
        refine pure_ (i := 11) (N := some 83) (v := ?_) (a' := ?_) #[true, false, true, false, false, true, true, true, true, true, true, true, false, false, false, false, false, false, false] rfl rfl (by kernel_rfl) (fun _ _ _ h => h) (Or.inl ⟨by rfl, ?_⟩) ?_ ?_
        rotate_left
        · intro w'
          go_simp
          with_reducible rfl
        rotate_left
        · simp only [Act.put, List.setIfInBounds_toArray, List.set_cons_zero, List.set_cons_succ, i64_w, i32_w, f1, f2, f3, f4, f5]
          rfl
        refine pure_ (i := 12) (N := some 84) (v := ?_) (a' := ?_) #[true, false, true, false, false, true, true, true, true, true, true, true, true, false, false, false, false, false, false] rfl rfl (by kernel_rfl) (fun _ _ _ h => h) (Or.inl ⟨by rfl, ?_⟩) ?_ ?_
        rotate_left
        · intro w'
          go_simp
          with_reducible rfl
        rotate_left
        · simp only [Act.put, List.setIfInBounds_toArray, List.set_cons_zero, List.set_cons_succ, i64_w, i32_w, f1, f2, f3, f4, f5]
          rfl
        refine pure_ (i := 13) (N := some 85) (v := ?_) (a' := ?_) #[true, false, true, false, false, true, true, true, true, true, true, true, true, true, false, false, false, false, false] rfl rfl (by kernel_rfl) (fun _ _ _ h => h) (Or.inl ⟨by rfl, ?_⟩) ?_ ?_
        rotate_left
        · intro w'
          go_simp
          with_reducible rfl
        rotate_left
        · simp only [Act.put, List.setIfInBounds_toArray, List.set_cons_zero, List.set_cons_succ, i64_w, i32_w, f1, f2, f3, f4, f5]
          rfl
        refine pure_ (i := 14) (N := some 86) (v := ?_) (a' := ?_) #[true, false, true, false, false, true, true, true, true, true, true, true, true, true, true, false, false, false, false] rfl rfl (by kernel_rfl) (fun _ _ _ h => h) (Or.inl ⟨by rfl, ?_⟩) ?_ ?_
        rotate_left
        · intro w'
          go_simp
          with_reducible rfl
        rotate_left
        · simp only [Act.put, List.setIfInBounds_toArray, List.set_cons_zero, List.set_cons_succ, i64_w, i32_w, f1, f2, f3, f4, f5]
          rfl
        refine take_ (i := 1) (N := some 73) (v := ?_) (a' := ?_) #[true, true, true, false, false, true, true, true, true, true, true, true, true, true, true, false, false, false, false] rfl rfl (by kernel_rfl) (fun _ _ _ h => h) (Or.inl ⟨by rfl, ?_⟩) hHeld ?_ ?_
        rotate_left
        · rintro w' ⟨s0, s1, s2, s3, s4⟩
          have q1 := (bkCell s0 1).trans (show _ = some (Value.slice (some ⟨g5, 0, none⟩) n cap5) from rfl)
          clear s0 s1 s2 s3 s4
          go_simp
          with_reducible rfl
        rotate_left
        · simp only [Act.put, List.setIfInBounds_toArray, List.set_cons_zero, List.set_cons_succ, i64_w, i32_w, f1, f2, f3, f4, f5]
          rfl
        refine pure_ (i := 3) (N := some 75) (v := ?_) (a' := ?_) #[true, true, true, true, false, true, true, true, true, true, true, true, true, true, true, false, false, false, false] rfl rfl (by kernel_rfl) (fun _ _ _ h => h) (Or.inl ⟨by rfl, ?_⟩) ?_ ?_
        rotate_left
        · intro w'
          go_simp
          with_reducible rfl
        rotate_left
        · simp only [Act.put, List.setIfInBounds_toArray, List.set_cons_zero, List.set_cons_succ, i64_w, i32_w, f1, f2, f3, f4, f5]
          rfl
        refine take_ (i := 4) (N := some 76) (v := ?_) (a' := ?_) #[true, true, true, true, true, true, true, true, true, true, true, true, true, true, true, false, false, false, false] rfl rfl (by kernel_rfl) (fun _ _ _ h => h) (Or.inl ⟨by rfl, ?_⟩) hHeld ?_ ?_
        rotate_left
        · rintro w' ⟨s0, s1, s2, s3, s4⟩
          clear s0 s2 s3 s4
          go_simp
          with_reducible rfl
        rotate_left
        · simp only [Act.put, List.setIfInBounds_toArray, List.set_cons_zero, List.set_cons_succ, i64_w, i32_w, f1, f2, f3, f4, f5]
          rfl
        refine one_ (i := 15) (N := some 87) #[true, true, true, true, true, true, true, true, true, true, true, true, true, true, true, true, false, false, false] rfl rfl (by kernel_rfl) (by decide) (fun K hK => ?_)
        obtain ⟨s0, s1, s2, s3, s4⟩ := hHeld
        refine goes_ Try.func99 (by kernel_rfl) rfl #[iv ((la - vl) * ((j : Int) - f)), iv ((z : Int) - f)] (by rfl) rfl rfl (by simp only [List.map_toArray, List.map_cons, List.map_nil]; rfl) ?_
        with_reducible refine (FC.out _).mono ?_
        rintro e w4 ⟨rfl, rfl⟩
        refine ⟨_, rfl, ?_⟩
        refine hK.out _ _ ⟨s0, s1, s2, s3, s4⟩ (fun hHeld => ?_)
        clear hK K
        refine norm_ (a' := ?_) ?_ ?_
        rotate_left
        · show Act.put _ (some 87) _ = _
          simp only [Act.put, List.setIfInBounds_toArray, List.set_cons_zero, List.set_cons_succ, i64_w, i32_w, f1, f2, f3, f4, f5]
          rfl
        refine pure_ (i := 16) (N := some 88) (v := ?_) (a' := ?_) #[true, true, true, true, true, true, true, true, true, true, true, true, true, true, true, true, true, false, false] rfl rfl (by kernel_rfl) (fun _ _ _ h => h) (Or.inl ⟨by rfl, ?_⟩) ?_ ?_
        rotate_left
        · intro w'
          go_simp
          with_reducible rfl
        rotate_left
        · simp only [Act.put, List.setIfInBounds_toArray, List.set_cons_zero, List.set_cons_succ, i64_w, i32_w, f1, f2, f3, f4, f5]
          rfl
        refine pure_ (i := 17) (N := some 89) (v := ?_) (a' := ?_) #[true, true, true, true, true, true, true, true, true, true, true, true, true, true, true, true, true, true, false] rfl rfl (by kernel_rfl) (fun _ _ _ h => h) (Or.inl ⟨by rfl, ?_⟩) ?_ ?_
        rotate_left
        · intro w'
          go_simp
          with_reducible rfl
        rotate_left
        · simp only [Act.put, List.setIfInBounds_toArray, List.set_cons_zero, List.set_cons_succ, i64_w, i32_w, f1, f2, f3, f4, f5]
          rfl
        refine last_ (i := 18) (N := none) #[true, true, true, true, true, true, true, true, true, true, true, true, true, true, true, true, true, true, true] rfl rfl (by kernel_rfl) (by decide) (fun K hK => ?_)
        obtain ⟨P9, s9, R9, O9, B9⟩ := hHeld
        have z9 := O9.frozenAt j
        have N9 := Lib.hid (And.intro P9 (And.intro R9 (And.intro O9 B9)))
        clear P9 R9 O9 B9
        refine skip_ (w1 := ?_) (by rfl) rfl ?_ ?_
        rotate_left
        · go_simp
          rfl
        refine hK.out _ _ ?_
        clear hK K
        refine done_ (by kernel_rfl) ?_
        clear f1 f2 f3 f4 f5 s7
        have w3n := wrap_succ2 (Nat.lt_succ_of_le hlt) (Nat.le_refl (z + 1)) (show z + 1 ≤ n by have := HU.out; omega) HU.out.2.2.1
        go_wp2
        try simp only [w3n]
        clear w3n k1 k2 k3
        obtain ⟨P9, R9, O9, B9⟩ := N9.out
        have hJ := HJ.out
        have hG := HG.out
        have hU := HU.out
        refine ⟨⟨j + 1, fun i => if i = j then vl + q else if i = j then vl else F i, by omega, by omega, by go_num, fun i hi => ?_, bkFar P9 (by simp; omega) _, bkFar R9 (by simp; omega) _, ownN (O9.stored j _).1 (rw_set _ n j _), B9.setCell (by simp; omega) _⟩, by simp [intOf]; omega⟩
        by_cases e : i = j
        · subst e
          simp only [if_true]
          rw [if_pos (by omega)]
          unfold dv
          rw [if_pos hfz, HQ.out]
        · simp only [e, if_false]
          rw [NF.out i hi]
          by_cases e2 : f ≤ i ∧ i < j
          · rw [if_pos e2, if_pos (by omega)]
          · rw [if_neg e2, if_neg (by omega)]
      · have k1 : decide ((f : Int) < (z : Int)) = false := decide_eq_false (by omega)
        have k2 : decide (f < z) = false := decide_eq_false hfz
        have k3 : (f < z) = False := eq_false hfz
        have w3n := wrap_succ2 (Nat.lt_succ_of_le hlt) (Nat.le_refl (z + 1)) (show z + 1 ≤ n by have := HU.out; omega) HU.out.2.2.1
        go_wp2
        try simp only [w3n]
        clear w3n k1 k2 k3
        have hJ := HJ.out
        have hG := HG.out
        have hU := HU.out
        refine ⟨⟨j + 1, fun i => if i = j then vl else F i, by omega, by omega, by go_num, fun i hi => ?_, P7.out, R7.out, O7.out, B7.out⟩, by simp [intOf]; omega⟩
        by_cases e : i = j
        · subst e
          simp only [if_true]
          rw [if_pos (by omega)]
          unfold dv
          rw [if_neg hfz]
        · simp only [e, if_false]
          rw [NF.out i hi]
          by_cases e2 : f ≤ i ∧ i < j
          · rw [if_pos e2, if_pos (by omega)]
          · rw [if_neg e2, if_neg (by omega)]
    · have hjz : j = z + 1 := by have := HJ.out; omega
      subst hjz
      have D5 := Lib.hid (ownData NO.out)
      have l4 : decide (((z + 1 : Nat) : Int) ≤ (z : Int)) = false := decide_eq_false (by omega)
      go_wp2_with (first
        | (refine wpList_load_row rfl 24 (.tmp 5) rfl (w.heap.size) rfl 24 _ (0, 0) _ NP.out Try.underlying24 rfl (S.i24 _ _ _ _) ?_)
        | (refine wpList_store_row rfl 24 (.tmp 10) (.tmp 90) rfl (w.heap.size + 1) (s.cs (some ⟨g5, 0, none⟩) n cap5) rfl rfl 24 _ NR.out (S.i24 _ _ _ _) (S.sz S.zero s none _ 0 0 _ _) (S.one _ _ _ _) ?_))
      refine bodyPost_ret (res_ct rfl _ _ (w.heap.size + 1) 24 _ (0, 0) _ rfl (setRow_heap _ _ _ _ _ _ NR.out) Try.underlying24 rfl (S.i24 _ _ _ _)) rfl ⟨_, _, g5, 0, rfl, (D5.out.setRow (fun _ => by have := HG.out; omega) _).congr fun i hi => ?_, below_setRow NB.out (by omega) _⟩
      rw [NF.out i hi]
      rfl
end Go.Proofs.Ytnmoiolddfboiaa.TZ

/- A sample whose loop is faded into what stands before it: both functions, and the law. -/
import Derived.Test.YtejnhhjldddbdaaTxJ
namespace Go.Proofs.Ytejnhhjldddbdaa.TX
open Go.RowKit Go.Proofs.YtejnhhjldddbdaaW.PrintLast
set_option linter.unusedVariables false
set_option linter.unusedSimpArgs false
theorem e_facts {u k en n : Nat} (hk : k < u) (hu : u ≤ en) (he : en ≤ n) (hn : (n : Int) ≤ 4096) : wrap64 ((en : Int) - u) = (en : Int) - u ∧ wrap64 ((en : Int) - u + k) = (en : Int) - u + k ∧ ((en : Int) - u + k).toNat = en - u + k ∧ 0 ≤ (en : Int) - u + k ∧ (en : Int) - u + k < n := ⟨wrap_in (by omega) (by omega), wrap_in (by omega) (by omega), by omega, by omega, by omega⟩
theorem wrap_succ2 {u k en n : Nat} (hk : k < u) (hu : u ≤ en) (he : en ≤ n) (hn : (n : Int) ≤ 4096) : wrap64 ((k : Int) + 1) = (k : Int) + 1 := wrap_in (by omega) (by omega)
theorem le_big {u en n : Nat} (hu : u ≤ en) (he : en ≤ n) (hn : (n : Int) ≤ 4096) : (u : Int) ≤ 1000000000000000 := by omega
set_option maxHeartbeats 16000000 in
set_option maxRecDepth 100000 in
theorem cross_bad (s : S) (A : Option Addr) (n c b o : Nat) (xs : Nat → Int) (w : World) (hA : DataAt w A n b o xs) (hn : (n : Int) ≤ 1000000) (hc : n ≤ c) (t : Int) (hva : vS s n xs = false) :
    Calls Try.prog 29 #[.agg (s.cs A n c), iv t] w fun e w' => e = .returned (.tuple #[.agg (S.zero.cs none 0 0), iv 1]) ∧ Below w.heap.size w w' := by
  have hB0 : Below w.heap.size w (((w.alloc (Obj.cells (s.cs A n c) 24)).alloc (Obj.cells #[iv t] 3)).alloc (Obj.cells #[Value.string ⟨#[]⟩, Value.slice none 0 0, iv 0, iv 0, iv 0, iv 0, iv 0, iv 0, iv 0, iv 0, iv 0, iv 0, iv 0] 24)) := (((Below.refl _ _).alloc (Nat.le_refl _) _).alloc (by simp) _).alloc (by simp; omega) _
  have P0 := Lib.hid (al3a w (Obj.cells (s.cs A n c) 24) (Obj.cells #[iv t] 3) (Obj.cells #[Value.string ⟨#[]⟩, Value.slice none 0 0, iv 0, iv 0, iv 0, iv 0, iv 0, iv 0, iv 0, iv 0, iv 0, iv 0, iv 0] 24))
  have K0 := Lib.hid (al3b w (Obj.cells (s.cs A n c) 24) (Obj.cells #[iv t] 3) (Obj.cells #[Value.string ⟨#[]⟩, Value.slice none 0 0, iv 0, iv 0, iv 0, iv 0, iv 0, iv 0, iv 0, iv 0, iv 0, iv 0, iv 0] 24))
  have R0 := Lib.hid (al3c w (Obj.cells (s.cs A n c) 24) (Obj.cells #[iv t] 3) (Obj.cells #[Value.string ⟨#[]⟩, Value.slice none 0 0, iv 0, iv 0, iv 0, iv 0, iv 0, iv 0, iv 0, iv 0, iv 0, iv 0, iv 0] 24))
  have HD := Lib.hid hA
  have TD := Lib.hid hA.top
  clear hA
  have l0 : (0 : Int) ≤ (n : Int) := by omega
  go_enter Try.func29, Try.ntmps29
  go_wp2_with (first
    | (refine wpList_load_row rfl 24 (.tmp 2) rfl (w.heap.size) rfl 24 _ (0, 0) _ P0.out Try.underlying24 rfl (S.i24 _ _ _ _) ?_)
    | (go_at_call 44; (with_reducible refine (valid_any s A n c b o xs (by omega) hc _ (HD.out.later hB0)).mono ?_); rintro e w1 ⟨rfl, hb1⟩; have P1 := Lib.hid (bkBelow P0.out hb1); have K1 := Lib.hid (bkBelow K0.out hb1); have R1 := Lib.hid (bkBelow R0.out hb1); have B1 := bdT hB0 hB0.size hb1; have p1 := (bkCell P1.out 1).trans (show _ = some (Value.slice A n c) from rfl); have p7 := (bkCell P1.out 7).trans (show _ = some (iv s.a7) from rfl); have p8 := (bkCell P1.out 8).trans (show _ = some (iv s.a8) from rfl); have p9 := (bkCell P1.out 9).trans (show _ = some (iv s.a9) from rfl); have k0 := (bkCell K1.out 0).trans (show _ = some (iv t) from rfl);  simp only [hva])
    | (refine wpBuild0 rfl 24 rfl (S.zero.cs none 0 0) built24 ?_)
    | (refine wpList_store_row rfl 24 (.tmp 4) (.tmp 9) rfl (w.heap.size + 1 + 1) (S.zero.cs none 0 0) rfl rfl 24 _ R1.out (S.i24 _ _ _ _) (S.sz S.zero S.zero none none 0 0 0 0) (S.one _ _ _ _) ?_))
  refine bodyPost_ret (res_ct rfl _ _ (w.heap.size + 1 + 1) 24 _ (0, 0) _ rfl (setRow_heap _ _ _ _ _ _ R1.out) Try.underlying24 rfl (S.i24 _ _ _ _)) rfl ⟨rfl, below_setRow B1 (by omega) _⟩
set_option maxHeartbeats 16000000 in
set_option maxRecDepth 100000 in
theorem cross_kind (s : S) (A : Option Addr) (n c b o : Nat) (xs : Nat → Int) (w : World) (hA : DataAt w A n b o xs) (hn : (n : Int) ≤ 1000000) (hc : n ≤ c) (t : Int) (hva : vS s n xs = true) (h7 : s.a7 ≠ 1) :
    Calls Try.prog 29 #[.agg (s.cs A n c), iv t] w fun e w' => e = .returned (.tuple #[.agg (S.zero.cs none 0 0), iv 6]) ∧ Below w.heap.size w w' := by
  have hB0 : Below w.heap.size w (((w.alloc (Obj.cells (s.cs A n c) 24)).alloc (Obj.cells #[iv t] 3)).alloc (Obj.cells #[Value.string ⟨#[]⟩, Value.slice none 0 0, iv 0, iv 0, iv 0, iv 0, iv 0, iv 0, iv 0, iv 0, iv 0, iv 0, iv 0] 24)) := (((Below.refl _ _).alloc (Nat.le_refl _) _).alloc (by simp) _).alloc (by simp; omega) _
  have P0 := Lib.hid (al3a w (Obj.cells (s.cs A n c) 24) (Obj.cells #[iv t] 3) (Obj.cells #[Value.string ⟨#[]⟩, Value.slice none 0 0, iv 0, iv 0, iv 0, iv 0, iv 0, iv 0, iv 0, iv 0, iv 0, iv 0, iv 0] 24))
  have K0 := Lib.hid (al3b w (Obj.cells (s.cs A n c) 24) (Obj.cells #[iv t] 3) (Obj.cells #[Value.string ⟨#[]⟩, Value.slice none 0 0, iv 0, iv 0, iv 0, iv 0, iv 0, iv 0, iv 0, iv 0, iv 0, iv 0, iv 0] 24))
  have R0 := Lib.hid (al3c w (Obj.cells (s.cs A n c) 24) (Obj.cells #[iv t] 3) (Obj.cells #[Value.string ⟨#[]⟩, Value.slice none 0 0, iv 0, iv 0, iv 0, iv 0, iv 0, iv 0, iv 0, iv 0, iv 0, iv 0, iv 0] 24))
  have HD := Lib.hid hA
  have TD := Lib.hid hA.top
  clear hA
  have l0 : (0 : Int) ≤ (n : Int) := by omega
  have e7 : (s.a7 != 1) = true := by simp [h7]
  go_enter Try.func29, Try.ntmps29
  go_wp2_with (first
    | (refine wpList_load_row rfl 24 (.tmp 2) rfl (w.heap.size) rfl 24 _ (0, 0) _ P0.out Try.underlying24 rfl (S.i24 _ _ _ _) ?_)
    | (go_at_call 44; (with_reducible refine (valid_any s A n c b o xs (by omega) hc _ (HD.out.later hB0)).mono ?_); rintro e w1 ⟨rfl, hb1⟩; have P1 := Lib.hid (bkBelow P0.out hb1); have K1 := Lib.hid (bkBelow K0.out hb1); have R1 := Lib.hid (bkBelow R0.out hb1); have B1 := bdT hB0 hB0.size hb1; have p1 := (bkCell P1.out 1).trans (show _ = some (Value.slice A n c) from rfl); have p7 := (bkCell P1.out 7).trans (show _ = some (iv s.a7) from rfl); have p8 := (bkCell P1.out 8).trans (show _ = some (iv s.a8) from rfl); have p9 := (bkCell P1.out 9).trans (show _ = some (iv s.a9) from rfl); have k0 := (bkCell K1.out 0).trans (show _ = some (iv t) from rfl);  simp only [hva])
    | (refine wpBuild0 rfl 24 rfl (S.zero.cs none 0 0) built24 ?_)
    | (refine wpList_store_row rfl 24 (.tmp 4) (.tmp 13) rfl (w.heap.size + 1 + 1) (S.zero.cs none 0 0) rfl rfl 24 _ R1.out (S.i24 _ _ _ _) (S.sz S.zero S.zero none none 0 0 0 0) (S.one _ _ _ _) ?_))
  refine bodyPost_ret (res_ct rfl _ _ (w.heap.size + 1 + 1) 24 _ (0, 0) _ rfl (setRow_heap _ _ _ _ _ _ R1.out) Try.underlying24 rfl (S.i24 _ _ _ _)) rfl ⟨rfl, below_setRow B1 (by omega) _⟩
set_option maxHeartbeats 16000000 in
set_option maxRecDepth 100000 in
theorem cross_range (s : S) (A : Option Addr) (n c b o : Nat) (xs : Nat → Int) (w : World) (hA : DataAt w A n b o xs) (hn : (n : Int) ≤ 1000000) (hc : n ≤ c) (t : Int) (hva : vS s n xs = true) (h7 : s.a7 = 1) (st en : Nat) (h8 : s.a8 = st) (h9 : s.a9 = en) (hse : st < en) (hen : en ≤ n) (hn4 : (n : Int) ≤ 4096) (hmn : t < 1 ∨ (if (en : Int) - (st : Int) < (st : Int) then (en : Int) - (st : Int) else (st : Int)) < t) :
    Calls Try.prog 29 #[.agg (s.cs A n c), iv t] w fun e w' => e = .returned (.tuple #[.agg (S.zero.cs none 0 0), iv 5]) ∧ Below w.heap.size w w' := by
  have hB0 : Below w.heap.size w (((w.alloc (Obj.cells (s.cs A n c) 24)).alloc (Obj.cells #[iv t] 3)).alloc (Obj.cells #[Value.string ⟨#[]⟩, Value.slice none 0 0, iv 0, iv 0, iv 0, iv 0, iv 0, iv 0, iv 0, iv 0, iv 0, iv 0, iv 0] 24)) := (((Below.refl _ _).alloc (Nat.le_refl _) _).alloc (by simp) _).alloc (by simp; omega) _
  have P0 := Lib.hid (al3a w (Obj.cells (s.cs A n c) 24) (Obj.cells #[iv t] 3) (Obj.cells #[Value.string ⟨#[]⟩, Value.slice none 0 0, iv 0, iv 0, iv 0, iv 0, iv 0, iv 0, iv 0, iv 0, iv 0, iv 0, iv 0] 24))
  have K0 := Lib.hid (al3b w (Obj.cells (s.cs A n c) 24) (Obj.cells #[iv t] 3) (Obj.cells #[Value.string ⟨#[]⟩, Value.slice none 0 0, iv 0, iv 0, iv 0, iv 0, iv 0, iv 0, iv 0, iv 0, iv 0, iv 0, iv 0] 24))
  have R0 := Lib.hid (al3c w (Obj.cells (s.cs A n c) 24) (Obj.cells #[iv t] 3) (Obj.cells #[Value.string ⟨#[]⟩, Value.slice none 0 0, iv 0, iv 0, iv 0, iv 0, iv 0, iv 0, iv 0, iv 0, iv 0, iv 0, iv 0] 24))
  have HD := Lib.hid hA
  have TD := Lib.hid hA.top
  clear hA
  have l0 : (0 : Int) ≤ (n : Int) := by omega
  have e7 : (s.a7 != 1) = false := by simp [h7]
  have wse : wrap64 ((en : Int) - (st : Int)) = (en : Int) - (st : Int) := wrap_in (by omega) (by omega)
  by_cases hcc : (en : Int) - (st : Int) < (st : Int)
  · have m1 : ((en : Int) - (st : Int) < (st : Int)) = True := eq_true hcc
    rw [if_pos hcc] at hmn
    have HNO := Lib.hid hmn
    clear hmn hcc
    go_enter Try.func29, Try.ntmps29
    go_wp2_with (first
      | (refine wpList_load_row rfl 24 (.tmp 2) rfl (w.heap.size) rfl 24 _ (0, 0) _ P0.out Try.underlying24 rfl (S.i24 _ _ _ _) ?_)
      | (go_at_call 44; (with_reducible refine (valid_any s A n c b o xs (by omega) hc _ (HD.out.later hB0)).mono ?_); rintro e w1 ⟨rfl, hb1⟩; have P1 := Lib.hid (bkBelow P0.out hb1); have K1 := Lib.hid (bkBelow K0.out hb1); have R1 := Lib.hid (bkBelow R0.out hb1); have B1 := bdT hB0 hB0.size hb1; have p1 := (bkCell P1.out 1).trans (show _ = some (Value.slice A n c) from rfl); have p7 := (bkCell P1.out 7).trans (show _ = some (iv s.a7) from rfl); have p8 := (bkCell P1.out 8).trans (show _ = some (iv s.a8) from rfl); have p9 := (bkCell P1.out 9).trans (show _ = some (iv s.a9) from rfl); have k0 := (bkCell K1.out 0).trans (show _ = some (iv t) from rfl); rw [h8] at p8; rw [h9] at p9; simp only [hva])
      | (go_at_call 45; (with_reducible refine (in_no _ _ _ _ HNO.out).mono ?_); rintro e w5 ⟨rfl, rfl⟩)
      | (refine wpBuild0 rfl 24 rfl (S.zero.cs none 0 0) built24 ?_)
      | (refine wpList_store_row rfl 24 (.tmp 4) (.tmp 25) rfl (w.heap.size + 1 + 1) (S.zero.cs none 0 0) rfl rfl 24 _ R1.out (S.i24 _ _ _ _) (S.sz S.zero S.zero none none 0 0 0 0) (S.one _ _ _ _) ?_))
    refine bodyPost_ret (res_ct rfl _ _ (w.heap.size + 1 + 1) 24 _ (0, 0) _ rfl (setRow_heap _ _ _ _ _ _ R1.out) Try.underlying24 rfl (S.i24 _ _ _ _)) rfl ⟨rfl, below_setRow B1 (by omega) _⟩
  · have m1 : ((en : Int) - (st : Int) < (st : Int)) = False := eq_false hcc
    rw [if_neg hcc] at hmn
    have HNO := Lib.hid hmn
    clear hmn hcc
    go_enter Try.func29, Try.ntmps29
    go_wp2_with (first
      | (refine wpList_load_row rfl 24 (.tmp 2) rfl (w.heap.size) rfl 24 _ (0, 0) _ P0.out Try.underlying24 rfl (S.i24 _ _ _ _) ?_)
      | (go_at_call 44; (with_reducible refine (valid_any s A n c b o xs (by omega) hc _ (HD.out.later hB0)).mono ?_); rintro e w1 ⟨rfl, hb1⟩; have P1 := Lib.hid (bkBelow P0.out hb1); have K1 := Lib.hid (bkBelow K0.out hb1); have R1 := Lib.hid (bkBelow R0.out hb1); have B1 := bdT hB0 hB0.size hb1; have p1 := (bkCell P1.out 1).trans (show _ = some (Value.slice A n c) from rfl); have p7 := (bkCell P1.out 7).trans (show _ = some (iv s.a7) from rfl); have p8 := (bkCell P1.out 8).trans (show _ = some (iv s.a8) from rfl); have p9 := (bkCell P1.out 9).trans (show _ = some (iv s.a9) from rfl); have k0 := (bkCell K1.out 0).trans (show _ = some (iv t) from rfl); rw [h8] at p8; rw [h9] at p9; simp only [hva])
      | (go_at_call 45; (with_reducible refine (in_no _ _ _ _ HNO.out).mono ?_); rintro e w5 ⟨rfl, rfl⟩)
      | (refine wpBuild0 rfl 24 rfl (S.zero.cs none 0 0) built24 ?_)
      | (refine wpList_store_row rfl 24 (.tmp 4) (.tmp 25) rfl (w.heap.size + 1 + 1) (S.zero.cs none 0 0) rfl rfl 24 _ R1.out (S.i24 _ _ _ _) (S.sz S.zero S.zero none none 0 0 0 0) (S.one _ _ _ _) ?_))
    refine bodyPost_ret (res_ct rfl _ _ (w.heap.size + 1 + 1) 24 _ (0, 0) _ rfl (setRow_heap _ _ _ _ _ _ R1.out) Try.underlying24 rfl (S.i24 _ _ _ _)) rfl ⟨rfl, below_setRow B1 (by omega) _⟩
set_option maxHeartbeats 16000000 in
set_option maxRecDepth 100000 in
theorem rcross_bad (s : S) (A : Option Addr) (n c b o : Nat) (xs : Nat → Int) (w : World) (hA : DataAt w A n b o xs) (hn : (n : Int) ≤ 1000000) (hc : n ≤ c) (t : Int) (hva : vS s n xs = false) :
    Calls Try.prog 30 #[.agg (s.cs A n c), iv t] w fun e w' => e = .returned (.tuple #[.agg (S.zero.cs none 0 0), iv 1]) ∧ Below w.heap.size w w' := by
  have hB0 : Below w.heap.size w ((w.alloc (Obj.cells (s.cs A n c) 24)).alloc (Obj.cells #[Value.string ⟨#[]⟩, Value.slice none 0 0, iv 0, iv 0, iv 0, iv 0, iv 0, iv 0, iv 0, iv 0, iv 0, iv 0, iv 0] 24)) := ((Below.refl _ _).alloc (Nat.le_refl _) _).alloc (by simp) _
  have P0 := Lib.hid (heap_alloc2_old w (Obj.cells (s.cs A n c) 24) (Obj.cells #[Value.string ⟨#[]⟩, Value.slice none 0 0, iv 0, iv 0, iv 0, iv 0, iv 0, iv 0, iv 0, iv 0, iv 0, iv 0, iv 0] 24))
  have R0 := Lib.hid (heap_alloc2_new w (Obj.cells (s.cs A n c) 24) (Obj.cells #[Value.string ⟨#[]⟩, Value.slice none 0 0, iv 0, iv 0, iv 0, iv 0, iv 0, iv 0, iv 0, iv 0, iv 0, iv 0, iv 0] 24))
  have HD := Lib.hid hA
  have TD := Lib.hid hA.top
  clear hA
  have l0 : (0 : Int) ≤ (n : Int) := by omega
  go_enter Try.func30, Try.ntmps30
  go_wp2_with (first
    | (refine wpList_load_row rfl 24 (.tmp 2) rfl (w.heap.size) rfl 24 _ (0, 0) _ P0.out Try.underlying24 rfl (S.i24 _ _ _ _) ?_)
    | (go_at_call 26; (with_reducible refine (rvalid_any s A n c b o xs (by omega) hc _ (HD.out.later hB0)).mono ?_); rintro e w1 ⟨rfl, hb1⟩; have P1 := Lib.hid (bkBelow P0.out hb1); have R1 := Lib.hid (bkBelow R0.out hb1); have B1 := bdT hB0 hB0.size hb1; have p1 := (bkCell P1.out 1).trans (show _ = some (Value.slice A n c) from rfl); have p7 := (bkCell P1.out 7).trans (show _ = some (iv s.a7) from rfl); have p8 := (bkCell P1.out 8).trans (show _ = some (iv s.a8) from rfl); have p9 := (bkCell P1.out 9).trans (show _ = some (iv s.a9) from rfl);  simp only [hva])
    | (refine wpBuild0 rfl 24 rfl (S.zero.cs none 0 0) built24 ?_)
    | (refine wpList_store_row rfl 24 (.tmp 4) (.tmp 11) rfl (w.heap.size + 1) (S.zero.cs none 0 0) rfl rfl 24 _ R1.out (S.i24 _ _ _ _) (S.sz S.zero S.zero none none 0 0 0 0) (S.one _ _ _ _) ?_))
  refine bodyPost_ret (res_ct rfl _ _ (w.heap.size + 1) 24 _ (0, 0) _ rfl (setRow_heap _ _ _ _ _ _ R1.out) Try.underlying24 rfl (S.i24 _ _ _ _)) rfl ⟨rfl, below_setRow B1 (by omega) _⟩
set_option maxHeartbeats 16000000 in
set_option maxRecDepth 100000 in
theorem rcross_kind (s : S) (A : Option Addr) (n c b o : Nat) (xs : Nat → Int) (w : World) (hA : DataAt w A n b o xs) (hn : (n : Int) ≤ 1000000) (hc : n ≤ c) (t : Int) (hva : vS s n xs = true) (h7 : s.a7 ≠ 1) :
    Calls Try.prog 30 #[.agg (s.cs A n c), iv t] w fun e w' => e = .returned (.tuple #[.agg (S.zero.cs none 0 0), iv 6]) ∧ Below w.heap.size w w' := by
  have hB0 : Below w.heap.size w ((w.alloc (Obj.cells (s.cs A n c) 24)).alloc (Obj.cells #[Value.string ⟨#[]⟩, Value.slice none 0 0, iv 0, iv 0, iv 0, iv 0, iv 0, iv 0, iv 0, iv 0, iv 0, iv 0, iv 0] 24)) := ((Below.refl _ _).alloc (Nat.le_refl _) _).alloc (by simp) _
  have P0 := Lib.hid (heap_alloc2_old w (Obj.cells (s.cs A n c) 24) (Obj.cells #[Value.string ⟨#[]⟩, Value.slice none 0 0, iv 0, iv 0, iv 0, iv 0, iv 0, iv 0, iv 0, iv 0, iv 0, iv 0, iv 0] 24))
  have R0 := Lib.hid (heap_alloc2_new w (Obj.cells (s.cs A n c) 24) (Obj.cells #[Value.string ⟨#[]⟩, Value.slice none 0 0, iv 0, iv 0, iv 0, iv 0, iv 0, iv 0, iv 0, iv 0, iv 0, iv 0, iv 0] 24))
  have HD := Lib.hid hA
  have TD := Lib.hid hA.top
  clear hA
  have l0 : (0 : Int) ≤ (n : Int) := by omega
  have e7 : (s.a7 != 1) = true := by simp [h7]
  go_enter Try.func30, Try.ntmps30
  go_wp2_with (first
    | (refine wpList_load_row rfl 24 (.tmp 2) rfl (w.heap.size) rfl 24 _ (0, 0) _ P0.out Try.underlying24 rfl (S.i24 _ _ _ _) ?_)
    | (go_at_call 26; (with_reducible refine (rvalid_any s A n c b o xs (by omega) hc _ (HD.out.later hB0)).mono ?_); rintro e w1 ⟨rfl, hb1⟩; have P1 := Lib.hid (bkBelow P0.out hb1); have R1 := Lib.hid (bkBelow R0.out hb1); have B1 := bdT hB0 hB0.size hb1; have p1 := (bkCell P1.out 1).trans (show _ = some (Value.slice A n c) from rfl); have p7 := (bkCell P1.out 7).trans (show _ = some (iv s.a7) from rfl); have p8 := (bkCell P1.out 8).trans (show _ = some (iv s.a8) from rfl); have p9 := (bkCell P1.out 9).trans (show _ = some (iv s.a9) from rfl);  simp only [hva])
    | (refine wpBuild0 rfl 24 rfl (S.zero.cs none 0 0) built24 ?_)
    | (refine wpList_store_row rfl 24 (.tmp 4) (.tmp 15) rfl (w.heap.size + 1) (S.zero.cs none 0 0) rfl rfl 24 _ R1.out (S.i24 _ _ _ _) (S.sz S.zero S.zero none none 0 0 0 0) (S.one _ _ _ _) ?_))
  refine bodyPost_ret (res_ct rfl _ _ (w.heap.size + 1) 24 _ (0, 0) _ rfl (setRow_heap _ _ _ _ _ _ R1.out) Try.underlying24 rfl (S.i24 _ _ _ _)) rfl ⟨rfl, below_setRow B1 (by omega) _⟩
set_option maxHeartbeats 16000000 in
set_option maxRecDepth 100000 in
theorem rcross_range (s : S) (A : Option Addr) (n c b o : Nat) (xs : Nat → Int) (w : World) (hA : DataAt w A n b o xs) (hn : (n : Int) ≤ 1000000) (hc : n ≤ c) (t : Int) (hva : vS s n xs = true) (h7 : s.a7 = 1) (st en : Nat) (h8 : s.a8 = st) (h9 : s.a9 = en) (hse : st < en) (hen : en ≤ n) (hn4 : (n : Int) ≤ 4096) (hmn : t < 1 ∨ (if (en : Int) - (st : Int) < (st : Int) then (en : Int) - (st : Int) else (st : Int)) < t) :
    Calls Try.prog 30 #[.agg (s.cs A n c), iv t] w fun e w' => e = .returned (.tuple #[.agg (S.zero.cs none 0 0), iv 5]) ∧ Below w.heap.size w w' := by
  have hB0 : Below w.heap.size w ((w.alloc (Obj.cells (s.cs A n c) 24)).alloc (Obj.cells #[Value.string ⟨#[]⟩, Value.slice none 0 0, iv 0, iv 0, iv 0, iv 0, iv 0, iv 0, iv 0, iv 0, iv 0, iv 0, iv 0] 24)) := ((Below.refl _ _).alloc (Nat.le_refl _) _).alloc (by simp) _
  have P0 := Lib.hid (heap_alloc2_old w (Obj.cells (s.cs A n c) 24) (Obj.cells #[Value.string ⟨#[]⟩, Value.slice none 0 0, iv 0, iv 0, iv 0, iv 0, iv 0, iv 0, iv 0, iv 0, iv 0, iv 0, iv 0] 24))
  have R0 := Lib.hid (heap_alloc2_new w (Obj.cells (s.cs A n c) 24) (Obj.cells #[Value.string ⟨#[]⟩, Value.slice none 0 0, iv 0, iv 0, iv 0, iv 0, iv 0, iv 0, iv 0, iv 0, iv 0, iv 0, iv 0] 24))
  have HD := Lib.hid hA
  have TD := Lib.hid hA.top
  clear hA
  have l0 : (0 : Int) ≤ (n : Int) := by omega
  have e7 : (s.a7 != 1) = false := by simp [h7]
  have wse : wrap64 ((en : Int) - (st : Int)) = (en : Int) - (st : Int) := wrap_in (by omega) (by omega)
  by_cases hcc : (en : Int) - (st : Int) < (st : Int)
  · have m1 : ((en : Int) - (st : Int) < (st : Int)) = True := eq_true hcc
    rw [if_pos hcc] at hmn
    have HNO := Lib.hid hmn
    clear hmn hcc
    go_enter Try.func30, Try.ntmps30
    go_wp2_with (first
      | (refine wpList_load_row rfl 24 (.tmp 2) rfl (w.heap.size) rfl 24 _ (0, 0) _ P0.out Try.underlying24 rfl (S.i24 _ _ _ _) ?_)
      | (go_at_call 26; (with_reducible refine (rvalid_any s A n c b o xs (by omega) hc _ (HD.out.later hB0)).mono ?_); rintro e w1 ⟨rfl, hb1⟩; have P1 := Lib.hid (bkBelow P0.out hb1); have R1 := Lib.hid (bkBelow R0.out hb1); have B1 := bdT hB0 hB0.size hb1; have p1 := (bkCell P1.out 1).trans (show _ = some (Value.slice A n c) from rfl); have p7 := (bkCell P1.out 7).trans (show _ = some (iv s.a7) from rfl); have p8 := (bkCell P1.out 8).trans (show _ = some (iv s.a8) from rfl); have p9 := (bkCell P1.out 9).trans (show _ = some (iv s.a9) from rfl); rw [h8] at p8; rw [h9] at p9; simp only [hva])
      | (go_at_call 48; (with_reducible refine (rin_no _ _ _ _ HNO.out).mono ?_); rintro e w5 ⟨rfl, rfl⟩)
      | (refine wpBuild0 rfl 24 rfl (S.zero.cs none 0 0) built24 ?_)
      | (refine wpList_store_row rfl 24 (.tmp 4) (.tmp 27) rfl (w.heap.size + 1) (S.zero.cs none 0 0) rfl rfl 24 _ R1.out (S.i24 _ _ _ _) (S.sz S.zero S.zero none none 0 0 0 0) (S.one _ _ _ _) ?_))
    refine bodyPost_ret (res_ct rfl _ _ (w.heap.size + 1) 24 _ (0, 0) _ rfl (setRow_heap _ _ _ _ _ _ R1.out) Try.underlying24 rfl (S.i24 _ _ _ _)) rfl ⟨rfl, below_setRow B1 (by omega) _⟩
  · have m1 : ((en : Int) - (st : Int) < (st : Int)) = False := eq_false hcc
    rw [if_neg hcc] at hmn
    have HNO := Lib.hid hmn
    clear hmn hcc
    go_enter Try.func30, Try.ntmps30
    go_wp2_with (first
      | (refine wpList_load_row rfl 24 (.tmp 2) rfl (w.heap.size) rfl 24 _ (0, 0) _ P0.out Try.underlying24 rfl (S.i24 _ _ _ _) ?_)
      | (go_at_call 26; (with_reducible refine (rvalid_any s A n c b o xs (by omega) hc _ (HD.out.later hB0)).mono ?_); rintro e w1 ⟨rfl, hb1⟩; have P1 := Lib.hid (bkBelow P0.out hb1); have R1 := Lib.hid (bkBelow R0.out hb1); have B1 := bdT hB0 hB0.size hb1; have p1 := (bkCell P1.out 1).trans (show _ = some (Value.slice A n c) from rfl); have p7 := (bkCell P1.out 7).trans (show _ = some (iv s.a7) from rfl); have p8 := (bkCell P1.out 8).trans (show _ = some (iv s.a8) from rfl); have p9 := (bkCell P1.out 9).trans (show _ = some (iv s.a9) from rfl); rw [h8] at p8; rw [h9] at p9; simp only [hva])
      | (go_at_call 48; (with_reducible refine (rin_no _ _ _ _ HNO.out).mono ?_); rintro e w5 ⟨rfl, rfl⟩)
      | (refine wpBuild0 rfl 24 rfl (S.zero.cs none 0 0) built24 ?_)
      | (refine wpList_store_row rfl 24 (.tmp 4) (.tmp 27) rfl (w.heap.size + 1) (S.zero.cs none 0 0) rfl rfl 24 _ R1.out (S.i24 _ _ _ _) (S.sz S.zero S.zero none none 0 0 0 0) (S.one _ _ _ _) ?_))
    refine bodyPost_ret (res_ct rfl _ _ (w.heap.size + 1) 24 _ (0, 0) _ rfl (setRow_heap _ _ _ _ _ _ R1.out) Try.underlying24 rfl (S.i24 _ _ _ _)) rfl ⟨rfl, below_setRow B1 (by omega) _⟩
/-- a frame of the faded sample -/
def cG (xs : Nat → Int) (st en u i : Nat) : Int := if en ≤ i + u ∧ i < en then cv (xs i) (xs (st - u + (i + u - en))) u (i + u - en) else xs i
theorem ownPos {w : World} {B n : Nat} {v : Value} {xs : List Value} (h : w.ownsRow B 3 1 v n xs) (hn : 0 < n) : ∃ g cap, v = .slice (some ⟨g, 0, none⟩) n cap ∧ B ≤ g := by
  rcases h.2 with ⟨_, h1⟩ | ⟨g, cap, cur, rfl, h1, _⟩
  · omega
  · exact ⟨g, cap, rfl, h1⟩
set_option maxHeartbeats 16000000 in
set_option maxRecDepth 100000 in
theorem cross_ok (s : S) (A : Option Addr) (n c b o : Nat) (xs : Nat → Int) (w : World) (hA : DataAt w A n b o xs) (hn : (n : Int) ≤ 1000000) (hc : n ≤ c) (h : Int) (hb : Bits s.a2 h) (hx : ∀ i, i < n → -h ≤ xs i ∧ xs i ≤ h - 1) (hva : vS s n xs = true) (h7 : s.a7 = 1) (st en : Nat) (h8 : s.a8 = st) (h9 : s.a9 = en) (hse : st < en) (hen : en ≤ n) (hn4 : (n : Int) ≤ 4096) (u : Nat) (hu1 : (1 : Int) ≤ (u : Int)) (hmn : (u : Int) ≤ (if (en : Int) - (st : Int) < (st : Int) then (en : Int) - (st : Int) else (st : Int))) :
    Calls Try.prog 29 #[.agg (s.cs A n c), iv u] w fun e w' => ∃ A' c' b o, e = .returned (.tuple #[.agg (s.cs A' n c'), iv 0]) ∧ DataAt w' A' n b o (fun i => clp h (cG xs st en u i)) ∧ Below w.heap.size w w' := by
  have hB0 : Below w.heap.size w (((w.alloc (Obj.cells (s.cs A n c) 24)).alloc (Obj.cells #[iv u] 3)).alloc (Obj.cells #[Value.string ⟨#[]⟩, Value.slice none 0 0, iv 0, iv 0, iv 0, iv 0, iv 0, iv 0, iv 0, iv 0, iv 0, iv 0, iv 0] 24)) := (((Below.refl _ _).alloc (Nat.le_refl _) _).alloc (by simp) _).alloc (by simp; omega) _
  have P0 := Lib.hid (al3a w (Obj.cells (s.cs A n c) 24) (Obj.cells #[iv u] 3) (Obj.cells #[Value.string ⟨#[]⟩, Value.slice none 0 0, iv 0, iv 0, iv 0, iv 0, iv 0, iv 0, iv 0, iv 0, iv 0, iv 0, iv 0] 24))
  have K0 := Lib.hid (al3b w (Obj.cells (s.cs A n c) 24) (Obj.cells #[iv u] 3) (Obj.cells #[Value.string ⟨#[]⟩, Value.slice none 0 0, iv 0, iv 0, iv 0, iv 0, iv 0, iv 0, iv 0, iv 0, iv 0, iv 0, iv 0] 24))
  have R0 := Lib.hid (al3c w (Obj.cells (s.cs A n c) 24) (Obj.cells #[iv u] 3) (Obj.cells #[Value.string ⟨#[]⟩, Value.slice none 0 0, iv 0, iv 0, iv 0, iv 0, iv 0, iv 0, iv 0, iv 0, iv 0, iv 0, iv 0] 24))
  have HD := Lib.hid hA
  have TD := Lib.hid hA.top
  clear hA
  have l0 : (0 : Int) ≤ (n : Int) := by omega
  have e7 : (s.a7 != 1) = false := by simp [h7]
  have HBD := bits_bd hb
  have HU := Lib.hid (show u ≤ st ∧ 0 < u ∧ u ≤ en ∧ en ≤ n ∧ st < en ∧ (n : Int) ≤ 4096 ∧ n ≤ 1000000 by revert hmn; split <;> (intro hmn; omega))
  have HX := Lib.hid (show ∀ j, j < n → -32768 ≤ xs j ∧ xs j ≤ 32768 from fun j hj => by have := hx j hj; omega)
  have HBT := Lib.hid hb
  have H89 := Lib.hid (And.intro h8 h9)
  have wse : wrap64 ((en : Int) - (st : Int)) = (en : Int) - (st : Int) := wrap_in (by omega) (by omega)
  clear hb hx
  by_cases hcc : (en : Int) - (st : Int) < (st : Int)
  · have m1 : ((en : Int) - (st : Int) < (st : Int)) = True := eq_true hcc
    rw [if_pos hcc] at hmn
    have HU2 := Lib.hid hmn
    clear hmn hcc
    go_enter Try.func29, Try.ntmps29
    go_upto_region 7 with (first
      | (refine wpList_load_row rfl 24 (.tmp 2) rfl (w.heap.size) rfl 24 _ (0, 0) _ P0.out Try.underlying24 rfl (S.i24 _ _ _ _) ?_)
      | (go_at_call 44; (with_reducible refine (valid_any s A n c b o xs (by omega) hc _ (HD.out.later hB0)).mono ?_); rintro e w1 ⟨rfl, hb1⟩; have P1 := Lib.hid (bkBelow P0.out hb1); have K1 := Lib.hid (bkBelow K0.out hb1); have R1 := Lib.hid (bkBelow R0.out hb1); have B1 := bdT hB0 hB0.size hb1; have p1 := (bkCell P1.out 1).trans (show _ = some (Value.slice A n c) from rfl); have p7 := (bkCell P1.out 7).trans (show _ = some (iv s.a7) from rfl); have p8 := (bkCell P1.out 8).trans (show _ = some (iv s.a8) from rfl); have p9 := (bkCell P1.out 9).trans (show _ = some (iv s.a9) from rfl); have k0 := (bkCell K1.out 0).trans (show _ = some (iv u) from rfl); rw [h8] at p8; rw [h9] at p9; simp only [hva])
      | (go_at_call 45; (with_reducible refine (in_yes _ _ _ _ hu1 HU2.out).mono ?_); rintro e w5 ⟨rfl, rfl⟩))
    clear wse p1 p7 p8 p9 k0
    have D5 := HD.out.later B1
    have M5 := Lib.hid (mapped_any s A n c b o xs h HBT.out HU.out.2.2.2.2.2.2 61 #[.pointer (some ⟨w.heap.size, 0, none⟩), .pointer (some ⟨w.heap.size + 1, 0, none⟩)] (enters_of Try.func61 (by kernel_rfl) rfl) (cG xs st en u) w1 D5 (fun W i hW hi => by
      obtain ⟨q1, q2, q3, q4, q5, q6, q7⟩ := HU.out
      have hxi := HX.out i hi
      by_cases hin : en ≤ i + u ∧ i < en
      · rw [show cG xs st en u i = cv (xs i) (xs (st - u + (i + u - en))) u (i + u - en) from if_pos hin]
        exact crossfn_in i n c (w.heap.size) (w.heap.size + 1) b o st en u (xs i) s A xs W H89.out.1 H89.out.2 q1 q5 q4 q6 q2 q3 (by omega) (i + u - en) (by omega) (by omega) hxi HX.out (bkBelow P1.out hW) (bkBelow K1.out hW) (D5.later hW)
      · rw [show cG xs st en u i = xs i from if_neg hin]
        exact crossfn_out i n c (w.heap.size) (w.heap.size + 1) b o st en u (xs i) s A xs W H89.out.1 H89.out.2 q1 q5 q4 q6 q2 q3 (by omega) (by omega) (bkBelow P1.out hW) (bkBelow K1.out hW) (D5.later hW)))
    clear D5
    have hR4 := bkLt R1.out
    have HR4 := Lib.hid hR4
    clear hR4
    go_wp2_with (first
      | (refine wpList_load_row rfl 24 (.tmp 2) rfl (w.heap.size) rfl 24 _ (0, 0) _ P1.out Try.underlying24 rfl (S.i24 _ _ _ _) ?_)
      | (go_at_call 46; (with_reducible refine M5.out.mono ?_); rintro e w6 ⟨g, rfl, D6, hg6, hb6⟩; have R6 := Lib.hid (bkBelow R1.out hb6); have B6 := bdT B1 B1.size hb6; have ND6 := Lib.hid D6)
      | (refine wpList_store_row rfl 24 (.tmp 4) (.tmp 28) rfl (w.heap.size + 1 + 1) (s.cs (some ⟨g, 0, none⟩) n n) rfl rfl 24 _ R6.out (S.i24 _ _ _ _) (S.sz S.zero s none _ 0 0 _ _) (S.one _ _ _ _) ?_))
    have hR4 := HR4.out
    refine bodyPost_ret (res_ct rfl _ _ (w.heap.size + 1 + 1) 24 _ (0, 0) _ rfl (setRow_heap _ _ _ _ _ _ R6.out) Try.underlying24 rfl (S.i24 _ _ _ _)) rfl ⟨_, _, g, 0, rfl, ND6.out.setRow (fun _ => by omega) _, below_setRow B6 (by omega) _⟩
  · have m1 : ((en : Int) - (st : Int) < (st : Int)) = False := eq_false hcc
    rw [if_neg hcc] at hmn
    have HU2 := Lib.hid hmn
    clear hmn hcc
    go_enter Try.func29, Try.ntmps29
    go_upto_region 7 with (first
      | (refine wpList_load_row rfl 24 (.tmp 2) rfl (w.heap.size) rfl 24 _ (0, 0) _ P0.out Try.underlying24 rfl (S.i24 _ _ _ _) ?_)
      | (go_at_call 44; (with_reducible refine (valid_any s A n c b o xs (by omega) hc _ (HD.out.later hB0)).mono ?_); rintro e w1 ⟨rfl, hb1⟩; have P1 := Lib.hid (bkBelow P0.out hb1); have K1 := Lib.hid (bkBelow K0.out hb1); have R1 := Lib.hid (bkBelow R0.out hb1); have B1 := bdT hB0 hB0.size hb1; have p1 := (bkCell P1.out 1).trans (show _ = some (Value.slice A n c) from rfl); have p7 := (bkCell P1.out 7).trans (show _ = some (iv s.a7) from rfl); have p8 := (bkCell P1.out 8).trans (show _ = some (iv s.a8) from rfl); have p9 := (bkCell P1.out 9).trans (show _ = some (iv s.a9) from rfl); have k0 := (bkCell K1.out 0).trans (show _ = some (iv u) from rfl); rw [h8] at p8; rw [h9] at p9; simp only [hva])
      | (go_at_call 45; (with_reducible refine (in_yes _ _ _ _ hu1 HU2.out).mono ?_); rintro e w5 ⟨rfl, rfl⟩))
    clear wse p1 p7 p8 p9 k0
    have D5 := HD.out.later B1
    have M5 := Lib.hid (mapped_any s A n c b o xs h HBT.out HU.out.2.2.2.2.2.2 61 #[.pointer (some ⟨w.heap.size, 0, none⟩), .pointer (some ⟨w.heap.size + 1, 0, none⟩)] (enters_of Try.func61 (by kernel_rfl) rfl) (cG xs st en u) w1 D5 (fun W i hW hi => by
      obtain ⟨q1, q2, q3, q4, q5, q6, q7⟩ := HU.out
      have hxi := HX.out i hi
      by_cases hin : en ≤ i + u ∧ i < en
      · rw [show cG xs st en u i = cv (xs i) (xs (st - u + (i + u - en))) u (i + u - en) from if_pos hin]
        exact crossfn_in i n c (w.heap.size) (w.heap.size + 1) b o st en u (xs i) s A xs W H89.out.1 H89.out.2 q1 q5 q4 q6 q2 q3 (by omega) (i + u - en) (by omega) (by omega) hxi HX.out (bkBelow P1.out hW) (bkBelow K1.out hW) (D5.later hW)
      · rw [show cG xs st en u i = xs i from if_neg hin]
        exact crossfn_out i n c (w.heap.size) (w.heap.size + 1) b o st en u (xs i) s A xs W H89.out.1 H89.out.2 q1 q5 q4 q6 q2 q3 (by omega) (by omega) (bkBelow P1.out hW) (bkBelow K1.out hW) (D5.later hW)))
    clear D5
    have hR4 := bkLt R1.out
    have HR4 := Lib.hid hR4
    clear hR4
    go_wp2_with (first
      | (refine wpList_load_row rfl 24 (.tmp 2) rfl (w.heap.size) rfl 24 _ (0, 0) _ P1.out Try.underlying24 rfl (S.i24 _ _ _ _) ?_)
      | (go_at_call 46; (with_reducible refine M5.out.mono ?_); rintro e w6 ⟨g, rfl, D6, hg6, hb6⟩; have R6 := Lib.hid (bkBelow R1.out hb6); have B6 := bdT B1 B1.size hb6; have ND6 := Lib.hid D6)
      | (refine wpList_store_row rfl 24 (.tmp 4) (.tmp 28) rfl (w.heap.size + 1 + 1) (s.cs (some ⟨g, 0, none⟩) n n) rfl rfl 24 _ R6.out (S.i24 _ _ _ _) (S.sz S.zero s none _ 0 0 _ _) (S.one _ _ _ _) ?_))
    have hR4 := HR4.out
    refine bodyPost_ret (res_ct rfl _ _ (w.heap.size + 1 + 1) 24 _ (0, 0) _ rfl (setRow_heap _ _ _ _ _ _ R6.out) Try.underlying24 rfl (S.i24 _ _ _ _)) rfl ⟨_, _, g, 0, rfl, ND6.out.setRow (fun _ => by omega) _, below_setRow B6 (by omega) _⟩
set_option maxHeartbeats 16000000 in
set_option maxRecDepth 100000 in
theorem rcross_ok (s : S) (A : Option Addr) (n c b o : Nat) (xs : Nat → Int) (w : World) (hA : DataAt w A n b o xs) (hn : (n : Int) ≤ 1000000) (hc : n ≤ c) (h : Int) (hb : Bits s.a2 h) (hx : ∀ i, i < n → -h ≤ xs i ∧ xs i ≤ h - 1) (hva : vS s n xs = true) (h7 : s.a7 = 1) (st en : Nat) (h8 : s.a8 = st) (h9 : s.a9 = en) (hse : st < en) (hen : en ≤ n) (hn4 : (n : Int) ≤ 4096) (u : Nat) (hu1 : (1 : Int) ≤ (u : Int)) (hmn : (u : Int) ≤ (if (en : Int) - (st : Int) < (st : Int) then (en : Int) - (st : Int) else (st : Int))) :
    Calls Try.prog 30 #[.agg (s.cs A n c), iv u] w fun e w' => ∃ A' c' b o, e = .returned (.tuple #[.agg (s.cs A' n c'), iv 0]) ∧ DataAt w' A' n b o (fun i => clp h (cG xs st en u i)) ∧ Below w.heap.size w w' := by
  have hB0 : Below w.heap.size w ((w.alloc (Obj.cells (s.cs A n c) 24)).alloc (Obj.cells #[Value.string ⟨#[]⟩, Value.slice none 0 0, iv 0, iv 0, iv 0, iv 0, iv 0, iv 0, iv 0, iv 0, iv 0, iv 0, iv 0] 24)) := ((Below.refl _ _).alloc (Nat.le_refl _) _).alloc (by simp) _
  have P0 := Lib.hid (heap_alloc2_old w (Obj.cells (s.cs A n c) 24) (Obj.cells #[Value.string ⟨#[]⟩, Value.slice none 0 0, iv 0, iv 0, iv 0, iv 0, iv 0, iv 0, iv 0, iv 0, iv 0, iv 0, iv 0] 24))
  have R0 := Lib.hid (heap_alloc2_new w (Obj.cells (s.cs A n c) 24) (Obj.cells #[Value.string ⟨#[]⟩, Value.slice none 0 0, iv 0, iv 0, iv 0, iv 0, iv 0, iv 0, iv 0, iv 0, iv 0, iv 0, iv 0] 24))
  have HD := Lib.hid hA
  have TD := Lib.hid hA.top
  clear hA
  have l0 : (0 : Int) ≤ (n : Int) := by omega
  have e7 : (s.a7 != 1) = false := by simp [h7]
  have HBD := bits_bd hb
  have HU := Lib.hid (show u ≤ st ∧ 0 < u ∧ u ≤ en ∧ en ≤ n ∧ st < en ∧ (n : Int) ≤ 4096 ∧ n ≤ 1000000 by revert hmn; split <;> (intro hmn; omega))
  have HX := Lib.hid (show ∀ j, j < n → -32768 ≤ xs j ∧ xs j ≤ 32768 from fun j hj => by have := hx j hj; omega)
  have HBT := Lib.hid hb
  have H89 := Lib.hid (And.intro h8 h9)
  have wse : wrap64 ((en : Int) - (st : Int)) = (en : Int) - (st : Int) := wrap_in (by omega) (by omega)
  clear hb hx
  by_cases hcc : (en : Int) - (st : Int) < (st : Int)
  · have m1 : ((en : Int) - (st : Int) < (st : Int)) = True := eq_true hcc
    rw [if_pos hcc] at hmn
    have HU2 := Lib.hid hmn
    clear hmn hcc
    go_enter Try.func30, Try.ntmps30
    go_upto_region 7 with (first
      | (refine wpList_load_row rfl 24 (.tmp 2) rfl (w.heap.size) rfl 24 _ (0, 0) _ P0.out Try.underlying24 rfl (S.i24 _ _ _ _) ?_)
      | (go_at_call 26; (with_reducible refine (rvalid_any s A n c b o xs (by omega) hc _ (HD.out.later hB0)).mono ?_); rintro e w1 ⟨rfl, hb1⟩; have P1 := Lib.hid (bkBelow P0.out hb1); have R1 := Lib.hid (bkBelow R0.out hb1); have B1 := bdT hB0 hB0.size hb1; have p1 := (bkCell P1.out 1).trans (show _ = some (Value.slice A n c) from rfl); have p7 := (bkCell P1.out 7).trans (show _ = some (iv s.a7) from rfl); have p8 := (bkCell P1.out 8).trans (show _ = some (iv s.a8) from rfl); have p9 := (bkCell P1.out 9).trans (show _ = some (iv s.a9) from rfl); rw [h8] at p8; rw [h9] at p9; simp only [hva])
      | (go_at_call 48; (with_reducible refine (rin_yes _ _ _ _ hu1 HU2.out).mono ?_); rintro e w5 ⟨rfl, rfl⟩))
    have CL := Lib.hid (clone_any A n c b o xs HU.out.2.2.2.2.2.2 w1 (HD.out.later B1))
    clear wse p7 p8 p9
    go_upto_region 9 with (go_at_call 51; (with_reducible refine CL.out.mono ?_); rintro e w2 ⟨v5, rfl, O5, hb2⟩; obtain ⟨g5, cap5, rfl, hg5⟩ := ownPos O5 (by have := HU.out; omega); have P2 := Lib.hid (bkBelow P1.out hb2); have R2 := Lib.hid (bkBelow R1.out hb2); have B2 := bdT B1 B1.size hb2; have O2 := Lib.hid O5)
    have HG := Lib.hid (And.intro hg5 (And.intro (bkLt P1.out) (bkLt R1.out)))
    clear p1 hg5 O5
    go_loopw [7] (fun v wr => ∃ (k : Nat) (F : Nat → Int), k ≤ u ∧ v = iv k ∧ (∀ i, i < n → F i = if en ≤ i + u ∧ i + u < en + k then cv (xs i) (xs (st - u + (i + u - en))) u (i + u - en) else xs i) ∧ wr.heap[w.heap.size]? = some (.cells (s.cs A n c) 24 (0, 0)) ∧ wr.heap[w.heap.size + 1]? = some (.cells #[Value.string ⟨#[]⟩, Value.slice none 0 0, iv 0, iv 0, iv 0, iv 0, iv 0, iv 0, iv 0, iv 0, iv 0, iv 0, iv 0] 24 (0, 0)) ∧ wr.ownsRow w1.heap.size 3 1 (.slice (some ⟨g5, 0, none⟩) n cap5) n (rw_ F n) ∧ Below w.heap.size w wr) (fun v _ => u - (intOf v).toNat)
    case atStart => exact ⟨0, xs, by omega, rfl, fun i hi => by rw [if_neg (by omega)], P2.out, R2.out, O2.out, B2⟩
    case round =>
      clear P2 R2 O2 B2
      obtain ⟨k, F, hk, rfl, hF, hP, hR, hO, hB⟩ := hrel
      have NF := Lib.hid hF
      have NP := Lib.hid hP
      have NR := Lib.hid hR
      have NO := Lib.hid hO
      clear hF hP hR hO
      have l3 : (0 : Int) ≤ (k : Int) := by omega
      by_cases hlt : k < u
      · have l4 : (k : Int) < (u : Int) := by omega
        have tD := TD.out (by have := HU.out; omega)
        subst tD
        have hD := HD.out.kept hB (HD.out.low (by have := HU.out; omega))
        have HK := Lib.hid (show en - u + k < n ∧ st - u + k < n by have := HU.out; omega)
        have x1 := hD.cell (en - u + k) HK.out.1
        have x0 := hD.cell (st - u + k) HK.out.2
        obtain ⟨f1, f2, f3, f4, f5, f6, f7, f8, f9, f10⟩ := cross_facts (HX.out (en - u + k) HK.out.1) (HX.out (st - u + k) HK.out.2) hlt HU.out.1 (show st < n by have := HU.out; omega) HU.out.2.2.2.2.2.1
        obtain ⟨h1, h2, h3, h4, h5⟩ := e_facts hlt HU.out.2.2.1 HU.out.2.2.2.1 HU.out.2.2.2.2.2.1
        have FC := Lib.hid (fun W => (floordiv_any (xs (en - u + k) * ((u : Int) - k) + xs (st - u + k) * k) u f10.1 f10.2 hu1 (le_big HU.out.2.2.1 HU.out.2.2.2.1 HU.out.2.2.2.2.2.1) W : Calls Try.prog 54 #[iv (xs (en - u + k) * ((u : Int) - k) + xs (st - u + k) * k), iv u] W fun e w' => e = .returned (iv (cv (xs (en - u + k)) (xs (st - u + k)) u k)) ∧ W = w'))
        clear f10 hD hse hen hn4
        go_upto_region 11 with (fail)
        refine start_ (n := 38) (S := fun w' => w'.heap[w.heap.size]? = some (.cells (s.cs (some ⟨b, o, none⟩) n c) 24 (0, 0)) ∧ w'.cell? ⟨b, o + (en - u + k), none⟩ = some (iv (xs (en - u + k))) ∧ w'.cell? ⟨b, o + (st - u + k), none⟩ = some (iv (xs (st - u + k))) ∧ w'.heap[w.heap.size + 1]? = some (.cells #[Value.string ⟨#[]⟩, Value.slice none 0 0, iv 0, iv 0, iv 0, iv 0, iv 0, iv 0, iv 0, iv 0, iv 0, iv 0, iv 0] 24 (0, 0)) ∧ w'.ownsRow w1.heap.size 3 1 (.slice (some ⟨g5, 0, none⟩) n cap5) n (rw_ F n) ∧ Below w.heap.size w w') (ds := [37]) #[false, false, false, false, false, false, false, false, false, false, false, false, false, false, false, false, false, false, false, false, false, false, false, false, false, false, false, false, false, false, false, false, false, false, false, false, false, false] (by kernel_rfl) rfl rfl ⟨NP.out, x1, x0, NR.out, NO.out.drew, hB.drew⟩ (fun hHeld => ?_)
        refine pure_ (i := 0) (N := some 36) (v := ?_) (a' := ?_) #[true, false, false, false, false, false, false, false, false, false, false, false, false, false, false, false, false, false, false, false, false, false, false, false, false, false, false, false, false, false, false, false, false, false, false, false, false, false] rfl rfl (by kernel_rfl) (fun _ _ _ h => h) (Or.inl ⟨by rfl, ?_⟩) ?_ ?_
        rotate_left
        · intro w'
          go_simp
          with_reducible rfl
        rotate_left
        · simp only [Act.put, List.setIfInBounds_toArray, List.set_cons_zero, List.set_cons_succ, i64_w, i32_w, f1, f2, f3, f4, f5, f8, f9, h1, h2, h3]
          rfl
        refine pure_ (i := 1) (N := some 37) (v := ?_) (a' := ?_) #[true, true, false, false, false, false, false, false, false, false, false, false, false, false, false, false, false, false, false, false, false, false, false, false, false, false, false, false, false, false, false, false, false, false, false, false, false, false] rfl rfl (by kernel_rfl) (fun _ _ _ h => h) (Or.inl ⟨by rfl, ?_⟩) ?_ ?_
        rotate_left
        · intro w'
          go_simp
          with_reducible rfl
        rotate_left
        · simp only [Act.put, List.setIfInBounds_toArray, List.set_cons_zero, List.set_cons_succ, i64_w, i32_w, f1, f2, f3, f4, f5, f8, f9, h1, h2, h3]
          rfl
        refine pure_ (i := 3) (N := some 39) (v := ?_) (a' := ?_) #[true, true, false, true, false, false, false, false, false, false, false, false, false, false, false, false, false, false, false, false, false, false, false, false, false, false, false, false, false, false, false, false, false, false, false, false, false, false] rfl rfl (by kernel_rfl) (fun _ _ _ h => h) (Or.inl ⟨by rfl, ?_⟩) ?_ ?_
        rotate_left
        · intro w'
          go_simp
          with_reducible rfl
        rotate_left
        · simp only [Act.put, List.setIfInBounds_toArray, List.set_cons_zero, List.set_cons_succ, i64_w, i32_w, f1, f2, f3, f4, f5, f8, f9, h1, h2, h3]
          rfl
        refine pure_ (i := 5) (N := some 41) (v := ?_) (a' := ?_) #[true, true, false, true, false, true, false, false, false, false, false, false, false, false, false, false, false, false, false, false, false, false, false, false, false, false, false, false, false, false, false, false, false, false, false, false, false, false] rfl rfl (by kernel_rfl) (fun _ _ _ h => h) (Or.inl ⟨by rfl, ?_⟩) ?_ ?_
        rotate_left
        · intro w'
          go_simp
          with_reducible rfl
        rotate_left
        · simp only [Act.put, List.setIfInBounds_toArray, List.set_cons_zero, List.set_cons_succ, i64_w, i32_w, f1, f2, f3, f4, f5, f8, f9, h1, h2, h3]
          rfl
        refine pure_ (i := 7) (N := some 43) (v := ?_) (a' := ?_) #[true, true, false, true, false, true, false, true, false, false, false, false, false, false, false, false, false, false, false, false, false, false, false, false, false, false, false, false, false, false, false, false, false, false, false, false, false, false] rfl rfl (by kernel_rfl) (fun _ _ _ h => h) (Or.inl ⟨by rfl, ?_⟩) ?_ ?_
        rotate_left
        · intro w'
          go_simp
          with_reducible rfl
        rotate_left
        · simp only [Act.put, List.setIfInBounds_toArray, List.set_cons_zero, List.set_cons_succ, i64_w, i32_w, f1, f2, f3, f4, f5, f8, f9, h1, h2, h3]
          rfl
        refine pure_ (i := 9) (N := some 45) (v := ?_) (a' := ?_) #[true, true, false, true, false, true, false, true, false, true, false, false, false, false, false, false, false, false, false, false, false, false, false, false, false, false, false, false, false, false, false, false, false, false, false, false, false, false] rfl rfl (by kernel_rfl) (fun _ _ _ h => h) (Or.inl ⟨by rfl, ?_⟩) ?_ ?_
        rotate_left
        · intro w'
          go_simp
          with_reducible rfl
        rotate_left
        · simp only [Act.put, List.setIfInBounds_toArray, List.set_cons_zero, List.set_cons_succ, i64_w, i32_w, f1, f2, f3, f4, f5, f8, f9, h1, h2, h3]
          rfl
        refine pure_ (i := 11) (N := some 47) (v := ?_) (a' := ?_) #[true, true, false, true, false, true, false, true, false, true, false, true, false, false, false, false, false, false, false, false, false, false, false, false, false, false, false, false, false, false, false, false, false, false, false, false, false, false] rfl rfl (by kernel_rfl) (fun _ _ _ h => h) (Or.inl ⟨by rfl, ?_⟩) ?_ ?_
        rotate_left
        · intro w'
          go_simp
          with_reducible rfl
        rotate_left
        · simp only [Act.put, List.setIfInBounds_toArray, List.set_cons_zero, List.set_cons_succ, i64_w, i32_w, f1, f2, f3, f4, f5, f8, f9, h1, h2, h3]
          rfl
        refine pure_ (i := 13) (N := some 49) (v := ?_) (a' := ?_) #[true, true, false, true, false, true, false, true, false, true, false, true, false, true, false, false, false, false, false, false, false, false, false, false, false, false, false, false, false, false, false, false, false, false, false, false, false, false] rfl rfl (by kernel_rfl) (fun _ _ _ h => h) (Or.inl ⟨by rfl, ?_⟩) ?_ ?_
        rotate_left
        · intro w'
          go_simp
          with_reducible rfl
        rotate_left
        · simp only [Act.put, List.setIfInBounds_toArray, List.set_cons_zero, List.set_cons_succ, i64_w, i32_w, f1, f2, f3, f4, f5, f8, f9, h1, h2, h3]
          rfl
        refine pure_ (i := 17) (N := some 53) (v := ?_) (a' := ?_) #[true, true, false, true, false, true, false, true, false, true, false, true, false, true, false, false, false, true, false, false, false, false, false, false, false, false, false, false, false, false, false, false, false, false, false, false, false, false] rfl rfl (by kernel_rfl) (fun _ _ _ h => h) (Or.inl ⟨by rfl, ?_⟩) ?_ ?_
        rotate_left
        · intro w'
          go_simp
          with_reducible rfl
        rotate_left
        · simp only [Act.put, List.setIfInBounds_toArray, List.set_cons_zero, List.set_cons_succ, i64_w, i32_w, f1, f2, f3, f4, f5, f8, f9, h1, h2, h3]
          rfl
        refine pure_ (i := 18) (N := some 54) (v := ?_) (a' := ?_) #[true, true, false, true, false, true, false, true, false, true, false, true, false, true, false, false, false, true, true, false, false, false, false, false, false, false, false, false, false, false, false, false, false, false, false, false, false, false] rfl rfl (by kernel_rfl) (fun _ _ _ h => h) (Or.inl ⟨by rfl, ?_⟩) ?_ ?_
        rotate_left
        · intro w'
          go_simp
          with_reducible rfl
        rotate_left
        · simp only [Act.put, List.setIfInBounds_toArray, List.set_cons_zero, List.set_cons_succ, i64_w, i32_w, f1, f2, f3, f4, f5, f8, f9, h1, h2, h3]
          rfl
        refine pure_ (i := 19) (N := some 55) (v := ?_) (a' := ?_) #[true, true, false, true, false, true, false, true, false, true, false, true, false, true, false, false, false, true, true, true, false, false, false, false, false, false, false, false, false, false, false, false, false, false, false, false, false, false] rfl rfl (by kernel_rfl) (fun _ _ _ h => h) (Or.inl ⟨by rfl, ?_⟩) ?_ ?_
        rotate_left
        · intro w'
          go_simp
          with_reducible rfl
        rotate_left
        · simp only [Act.put, List.setIfInBounds_toArray, List.set_cons_zero, List.set_cons_succ, i64_w, i32_w, f1, f2, f3, f4, f5, f8, f9, h1, h2, h3]
          rfl
        refine pure_ (i := 21) (N := some 57) (v := ?_) (a' := ?_) #[true, true, false, true, false, true, false, true, false, true, false, true, false, true, false, false, false, true, true, true, false, true, false, false, false, false, false, false, false, false, false, false, false, false, false, false, false, false] rfl rfl (by kernel_rfl) (fun _ _ _ h => h) (Or.inl ⟨by rfl, ?_⟩) ?_ ?_
        rotate_left
        · intro w'
          go_simp
          with_reducible rfl
        rotate_left
        · simp only [Act.put, List.setIfInBounds_toArray, List.set_cons_zero, List.set_cons_succ, i64_w, i32_w, f1, f2, f3, f4, f5, f8, f9, h1, h2, h3]
          rfl
        refine pure_ (i := 23) (N := some 59) (v := ?_) (a' := ?_) #[true, true, false, true, false, true, false, true, false, true, false, true, false, true, false, false, false, true, true, true, false, true, false, true, false, false, false, false, false, false, false, false, false, false, false, false, false, false] rfl rfl (by kernel_rfl) (fun _ _ _ h => h) (Or.inl ⟨by rfl, ?_⟩) ?_ ?_
        rotate_left
        · intro w'
          go_simp
          with_reducible rfl
        rotate_left
        · simp only [Act.put, List.setIfInBounds_toArray, List.set_cons_zero, List.set_cons_succ, i64_w, i32_w, f1, f2, f3, f4, f5, f8, f9, h1, h2, h3]
          rfl
        refine pure_ (i := 25) (N := some 61) (v := ?_) (a' := ?_) #[true, true, false, true, false, true, false, true, false, true, false, true, false, true, false, false, false, true, true, true, false, true, false, true, false, true, false, false, false, false, false, false, false, false, false, false, false, false] rfl rfl (by kernel_rfl) (fun _ _ _ h => h) (Or.inl ⟨by rfl, ?_⟩) ?_ ?_
        rotate_left
        · intro w'
          go_simp
          with_reducible rfl
        rotate_left
        · simp only [Act.put, List.setIfInBounds_toArray, List.set_cons_zero, List.set_cons_succ, i64_w, i32_w, f1, f2, f3, f4, f5, f8, f9, h1, h2, h3]
          rfl
        refine pure_ (i := 27) (N := some 63) (v := ?_) (a' := ?_) #[true, true, false, true, false, true, false, true, false, true, false, true, false, true, false, false, false, true, true, true, false, true, false, true, false, true, false, true, false, false, false, false, false, false, false, false, false, false] rfl rfl (by kernel_rfl) (fun _ _ _ h => h) (Or.inl ⟨by rfl, ?_⟩) ?_ ?_
        rotate_left
        · intro w'
          go_simp
          with_reducible rfl
        rotate_left
        · simp only [Act.put, List.setIfInBounds_toArray, List.set_cons_zero, List.set_cons_succ, i64_w, i32_w, f1, f2, f3, f4, f5, f8, f9, h1, h2, h3]
          rfl
        refine pure_ (i := 31) (N := some 67) (v := ?_) (a' := ?_) #[true, true, false, true, false, true, false, true, false, true, false, true, false, true, false, false, false, true, true, true, false, true, false, true, false, true, false, true, false, false, false, true, false, false, false, false, false, false] rfl rfl (by kernel_rfl) (fun _ _ _ h => h) (Or.inl ⟨by rfl, ?_⟩) ?_ ?_
        rotate_left
        · intro w'
          go_simp
          with_reducible rfl
        rotate_left
        · simp only [Act.put, List.setIfInBounds_toArray, List.set_cons_zero, List.set_cons_succ, i64_w, i32_w, f1, f2, f3, f4, f5, f8, f9, h1, h2, h3]
          rfl
        refine pure_ (i := 34) (N := some 70) (v := ?_) (a' := ?_) #[true, true, false, true, false, true, false, true, false, true, false, true, false, true, false, false, false, true, true, true, false, true, false, true, false, true, false, true, false, false, false, true, false, false, true, false, false, false] rfl rfl (by kernel_rfl) (fun _ _ _ h => h) (Or.inl ⟨by rfl, ?_⟩) ?_ ?_
        rotate_left
        · intro w'
          go_simp
          with_reducible rfl
        rotate_left
        · simp only [Act.put, List.setIfInBounds_toArray, List.set_cons_zero, List.set_cons_succ, i64_w, i32_w, f1, f2, f3, f4, f5, f8, f9, h1, h2, h3]
          rfl
        refine take_ (i := 2) (N := some 38) (v := ?_) (a' := ?_) #[true, true, true, true, false, true, false, true, false, true, false, true, false, true, false, false, false, true, true, true, false, true, false, true, false, true, false, true, false, false, false, true, false, false, true, false, false, false] rfl rfl (by kernel_rfl) (fun _ _ _ h => h) (Or.inl ⟨by rfl, ?_⟩) hHeld ?_ ?_
        rotate_left
        · rintro w' ⟨s0, s1, s2, s3, s4, s5⟩
          have q9 := (bkCell s0 9).trans (show _ = some (iv s.a9) from rfl)
          rw [H89.out.2] at q9
          clear s0 s1 s2 s3 s4 s5
          go_simp
          with_reducible rfl
        rotate_left
        · simp only [Act.put, List.setIfInBounds_toArray, List.set_cons_zero, List.set_cons_succ, i64_w, i32_w, f1, f2, f3, f4, f5, f8, f9, h1, h2, h3]
          rfl
        refine pure_ (i := 4) (N := some 40) (v := ?_) (a' := ?_) #[true, true, true, true, true, true, false, true, false, true, false, true, false, true, false, false, false, true, true, true, false, true, false, true, false, true, false, true, false, false, false, true, false, false, true, false, false, false] rfl rfl (by kernel_rfl) (fun _ _ _ h => h) (Or.inl ⟨by rfl, ?_⟩) ?_ ?_
        rotate_left
        · intro w'
          go_simp
          with_reducible rfl
        rotate_left
        · simp only [Act.put, List.setIfInBounds_toArray, List.set_cons_zero, List.set_cons_succ, i64_w, i32_w, f1, f2, f3, f4, f5, f8, f9, h1, h2, h3]
          rfl
        refine pure_ (i := 6) (N := some 42) (v := ?_) (a' := ?_) #[true, true, true, true, true, true, true, true, false, true, false, true, false, true, false, false, false, true, true, true, false, true, false, true, false, true, false, true, false, false, false, true, false, false, true, false, false, false] rfl rfl (by kernel_rfl) (fun _ _ _ h => h) (Or.inl ⟨by rfl, ?_⟩) ?_ ?_
        rotate_left
        · intro w'
          go_simp
          with_reducible rfl
        rotate_left
        · simp only [Act.put, List.setIfInBounds_toArray, List.set_cons_zero, List.set_cons_succ, i64_w, i32_w, f1, f2, f3, f4, f5, f8, f9, h1, h2, h3]
          rfl
        refine take_ (i := 8) (N := some 44) (v := ?_) (a' := ?_) #[true, true, true, true, true, true, true, true, true, true, false, true, false, true, false, false, false, true, true, true, false, true, false, true, false, true, false, true, false, false, false, true, false, false, true, false, false, false] rfl rfl (by kernel_rfl) (fun _ _ _ h => h) (Or.inl ⟨by rfl, ?_⟩) hHeld ?_ ?_
        rotate_left
        · rintro w' ⟨s0, s1, s2, s3, s4, s5⟩
          have q1 := (bkCell s0 1).trans (show _ = some (Value.slice (some ⟨b, o, none⟩) n c) from rfl)
          clear s0 s1 s2 s3 s4 s5
          go_simp
          with_reducible rfl
        rotate_left
        · simp only [Act.put, List.setIfInBounds_toArray, List.set_cons_zero, List.set_cons_succ, i64_w, i32_w, f1, f2, f3, f4, f5, f8, f9, h1, h2, h3]
          rfl
        refine take_ (i := 10) (N := some 46) (v := ?_) (a' := ?_) #[true, true, true, true, true, true, true, true, true, true, true, true, false, true, false, false, false, true, true, true, false, true, false, true, false, true, false, true, false, false, false, true, false, false, true, false, false, false] rfl rfl (by kernel_rfl) (fun _ _ _ h => h) (Or.inl ⟨by rfl, ?_⟩) hHeld ?_ ?_
        rotate_left
        · rintro w' ⟨s0, s1, s2, s3, s4, s5⟩
          have q9 := (bkCell s0 9).trans (show _ = some (iv s.a9) from rfl)
          rw [H89.out.2] at q9
          clear s0 s1 s2 s3 s4 s5
          go_simp
          with_reducible rfl
        rotate_left
        · simp only [Act.put, List.setIfInBounds_toArray, List.set_cons_zero, List.set_cons_succ, i64_w, i32_w, f1, f2, f3, f4, f5, f8, f9, h1, h2, h3]
          rfl
        refine pure_ (i := 12) (N := some 48) (v := ?_) (a' := ?_) #[true, true, true, true, true, true, true, true, true, true, true, true, true, true, false, false, false, true, true, true, false, true, false, true, false, true, false, true, false, false, false, true, false, false, true, false, false, false] rfl rfl (by kernel_rfl) (fun _ _ _ h => h) (Or.inl ⟨by rfl, ?_⟩) ?_ ?_
        rotate_left
        · intro w'
          go_simp
          with_reducible rfl
        rotate_left
        · simp only [Act.put, List.setIfInBounds_toArray, List.set_cons_zero, List.set_cons_succ, i64_w, i32_w, f1, f2, f3, f4, f5, f8, f9, h1, h2, h3]
          rfl
        refine pure_ (i := 14) (N := some 50) (v := ?_) (a' := ?_) #[true, true, true, true, true, true, true, true, true, true, true, true, true, true, true, false, false, true, true, true, false, true, false, true, false, true, false, true, false, false, false, true, false, false, true, false, false, false] rfl rfl (by kernel_rfl) (fun _ _ _ h => h) (Or.inl ⟨by rfl, ?_⟩) ?_ ?_
        rotate_left
        · intro w'
          go_simp
          with_reducible rfl
        rotate_left
        · simp only [Act.put, List.setIfInBounds_toArray, List.set_cons_zero, List.set_cons_succ, i64_w, i32_w, f1, f2, f3, f4, f5, f8, f9, h1, h2, h3]
          rfl
        refine pure_ (i := 15) (N := some 51) (v := ?_) (a' := ?_) #[true, true, true, true, true, true, true, true, true, true, true, true, true, true, true, true, false, true, true, true, false, true, false, true, false, true, false, true, false, false, false, true, false, false, true, false, false, false] rfl rfl (by kernel_rfl) (fun _ _ _ h => h) (Or.inl ⟨by rfl, ?_⟩) ?_ ?_
        rotate_left
        · intro w'
          go_simp
          with_reducible rfl
        rotate_left
        · simp only [Act.put, List.setIfInBounds_toArray, List.set_cons_zero, List.set_cons_succ, i64_w, i32_w, f1, f2, f3, f4, f5, f8, f9, h1, h2, h3]
          rfl
        refine take_ (i := 16) (N := some 52) (v := ?_) (a' := ?_) #[true, true, true, true, true, true, true, true, true, true, true, true, true, true, true, true, true, true, true, true, false, true, false, true, false, true, false, true, false, false, false, true, false, false, true, false, false, false] rfl rfl (by kernel_rfl) (fun _ _ _ h => h) (Or.inl ⟨by rfl, ?_⟩) hHeld ?_ ?_
        rotate_left
        · rintro w' ⟨s0, s1, s2, s3, s4, s5⟩
          clear s0 s2 s3 s4 s5
          go_simp
          with_reducible rfl
        rotate_left
        · simp only [Act.put, List.setIfInBounds_toArray, List.set_cons_zero, List.set_cons_succ, i64_w, i32_w, f1, f2, f3, f4, f5, f8, f9, h1, h2, h3]
          rfl
        refine pure_ (i := 20) (N := some 56) (v := ?_) (a' := ?_) #[true, true, true, true, true, true, true, true, true, true, true, true, true, true, true, true, true, true, true, true, true, true, false, true, false, true, false, true, false, false, false, true, false, false, true, false, false, false] rfl rfl (by kernel_rfl) (fun _ _ _ h => h) (Or.inl ⟨by rfl, ?_⟩) ?_ ?_
        rotate_left
        · intro w'
          go_simp
          with_reducible rfl
        rotate_left
        · simp only [Act.put, List.setIfInBounds_toArray, List.set_cons_zero, List.set_cons_succ, i64_w, i32_w, f1, f2, f3, f4, f5, f8, f9, h1, h2, h3]
          rfl
        refine take_ (i := 22) (N := some 58) (v := ?_) (a' := ?_) #[true, true, true, true, true, true, true, true, true, true, true, true, true, true, true, true, true, true, true, true, true, true, true, true, false, true, false, true, false, false, false, true, false, false, true, false, false, false] rfl rfl (by kernel_rfl) (fun _ _ _ h => h) (Or.inl ⟨by rfl, ?_⟩) hHeld ?_ ?_
        rotate_left
        · rintro w' ⟨s0, s1, s2, s3, s4, s5⟩
          have q1 := (bkCell s0 1).trans (show _ = some (Value.slice (some ⟨b, o, none⟩) n c) from rfl)
          clear s0 s1 s2 s3 s4 s5
          go_simp
          with_reducible rfl
        rotate_left
        · simp only [Act.put, List.setIfInBounds_toArray, List.set_cons_zero, List.set_cons_succ, i64_w, i32_w, f1, f2, f3, f4, f5, f8, f9, h1, h2, h3]
          rfl
        refine take_ (i := 24) (N := some 60) (v := ?_) (a' := ?_) #[true, true, true, true, true, true, true, true, true, true, true, true, true, true, true, true, true, true, true, true, true, true, true, true, true, true, false, true, false, false, false, true, false, false, true, false, false, false] rfl rfl (by kernel_rfl) (fun _ _ _ h => h) (Or.inl ⟨by rfl, ?_⟩) hHeld ?_ ?_
        rotate_left
        · rintro w' ⟨s0, s1, s2, s3, s4, s5⟩
          have q8 := (bkCell s0 8).trans (show _ = some (iv s.a8) from rfl)
          rw [H89.out.1] at q8
          clear s0 s1 s2 s3 s4 s5
          go_simp
          with_reducible rfl
        rotate_left
        · simp only [Act.put, List.setIfInBounds_toArray, List.set_cons_zero, List.set_cons_succ, i64_w, i32_w, f1, f2, f3, f4, f5, f8, f9, h1, h2, h3]
          rfl
        refine pure_ (i := 26) (N := some 62) (v := ?_) (a' := ?_) #[true, true, true, true, true, true, true, true, true, true, true, true, true, true, true, true, true, true, true, true, true, true, true, true, true, true, true, true, false, false, false, true, false, false, true, false, false, false] rfl rfl (by kernel_rfl) (fun _ _ _ h => h) (Or.inl ⟨by rfl, ?_⟩) ?_ ?_
        rotate_left
        · intro w'
          go_simp
          with_reducible rfl
        rotate_left
        · simp only [Act.put, List.setIfInBounds_toArray, List.set_cons_zero, List.set_cons_succ, i64_w, i32_w, f1, f2, f3, f4, f5, f8, f9, h1, h2, h3]
          rfl
        refine pure_ (i := 28) (N := some 64) (v := ?_) (a' := ?_) #[true, true, true, true, true, true, true, true, true, true, true, true, true, true, true, true, true, true, true, true, true, true, true, true, true, true, true, true, true, false, false, true, false, false, true, false, false, false] rfl rfl (by kernel_rfl) (fun _ _ _ h => h) (Or.inl ⟨by rfl, ?_⟩) ?_ ?_
        rotate_left
        · intro w'
          go_simp
          with_reducible rfl
        rotate_left
        · simp only [Act.put, List.setIfInBounds_toArray, List.set_cons_zero, List.set_cons_succ, i64_w, i32_w, f1, f2, f3, f4, f5, f8, f9, h1, h2, h3]
          rfl
        refine pure_ (i := 29) (N := some 65) (v := ?_) (a' := ?_) #[true, true, true, true, true, true, true, true, true, true, true, true, true, true, true, true, true, true, true, true, true, true, true, true, true, true, true, true, true, true, false, true, false, false, true, false, false, false] rfl rfl (by kernel_rfl) (fun _ _ _ h => h) (Or.inl ⟨by rfl, ?_⟩) ?_ ?_
        rotate_left
        · intro w'
          go_simp
          with_reducible rfl
        rotate_left
        · simp only [Act.put, List.setIfInBounds_toArray, List.set_cons_zero, List.set_cons_succ, i64_w, i32_w, f1, f2, f3, f4, f5, f8, f9, h1, h2, h3]
          rfl
        refine take_ (i := 30) (N := some 66) (v := ?_) (a' := ?_) #[true, true, true, true, true, true, true, true, true, true, true, true, true, true, true, true, true, true, true, true, true, true, true, true, true, true, true, true, true, true, true, true, false, false, true, false, false, false] rfl rfl (by kernel_rfl) (fun _ _ _ h => h) (Or.inl ⟨by rfl, ?_⟩) hHeld ?_ ?_
        rotate_left
        · rintro w' ⟨s0, s1, s2, s3, s4, s5⟩
          clear s0 s1 s3 s4 s5
          go_simp
          with_reducible rfl
        rotate_left
        · simp only [Act.put, List.setIfInBounds_toArray, List.set_cons_zero, List.set_cons_succ, i64_w, i32_w, f1, f2, f3, f4, f5, f8, f9, h1, h2, h3]
          rfl
        refine pure_ (i := 32) (N := some 68) (v := ?_) (a' := ?_) #[true, true, true, true, true, true, true, true, true, true, true, true, true, true, true, true, true, true, true, true, true, true, true, true, true, true, true, true, true, true, true, true, true, false, true, false, false, false] rfl rfl (by kernel_rfl) (fun _ _ _ h => h) (Or.inl ⟨by rfl, ?_⟩) ?_ ?_
        rotate_left
        · intro w'
          go_simp
          with_reducible rfl
        rotate_left
        · simp only [Act.put, List.setIfInBounds_toArray, List.set_cons_zero, List.set_cons_succ, i64_w, i32_w, f1, f2, f3, f4, f5, f8, f9, h1, h2, h3]
          rfl
        refine pure_ (i := 33) (N := some 69) (v := ?_) (a' := ?_) #[true, true, true, true, true, true, true, true, true, true, true, true, true, true, true, true, true, true, true, true, true, true, true, true, true, true, true, true, true, true, true, true, true, true, true, false, false, false] rfl rfl (by kernel_rfl) (fun _ _ _ h => h) (Or.inl ⟨by rfl, ?_⟩) ?_ ?_
        rotate_left
        · intro w'
          go_simp
          with_reducible rfl
        rotate_left
        · simp only [Act.put, List.setIfInBounds_toArray, List.set_cons_zero, List.set_cons_succ, i64_w, i32_w, f1, f2, f3, f4, f5, f8, f9, h1, h2, h3]
          rfl
        refine one_ (i := 35) (N := some 71) #[true, true, true, true, true, true, true, true, true, true, true, true, true, true, true, true, true, true, true, true, true, true, true, true, true, true, true, true, true, true, true, true, true, true, true, true, false, false] rfl rfl (by kernel_rfl) (by decide) (fun K hK => ?_)
        obtain ⟨s0, s1, s2, s3, s4, s5⟩ := hHeld
        refine goes_ Try.func54 (by kernel_rfl) rfl #[iv (xs (en - u + k) * ((u : Int) - k) + xs (st - u + k) * k), iv u] (by rfl) rfl rfl (by simp only [List.map_toArray, List.map_cons, List.map_nil]; rfl) ?_
        with_reducible refine (FC.out _).mono ?_
        rintro e w4 ⟨rfl, rfl⟩
        refine ⟨_, rfl, ?_⟩
        refine hK.out _ _ ⟨s0, s1, s2, s3, s4, s5⟩ (fun hHeld => ?_)
        clear hK K
        refine norm_ (a' := ?_) ?_ ?_
        rotate_left
        · show Act.put _ (some 71) _ = _
          simp only [Act.put, List.setIfInBounds_toArray, List.set_cons_zero, List.set_cons_succ, i64_w, i32_w, f1, f2, f3, f4, f5, f8, f9, h1, h2, h3]
          rfl
        refine pure_ (i := 36) (N := some 72) (v := ?_) (a' := ?_) #[true, true, true, true, true, true, true, true, true, true, true, true, true, true, true, true, true, true, true, true, true, true, true, true, true, true, true, true, true, true, true, true, true, true, true, true, true, false] rfl rfl (by kernel_rfl) (fun _ _ _ h => h) (Or.inl ⟨by rfl, ?_⟩) ?_ ?_
        rotate_left
        · intro w'
          go_simp
          with_reducible rfl
        rotate_left
        · simp only [Act.put, List.setIfInBounds_toArray, List.set_cons_zero, List.set_cons_succ, i64_w, i32_w, f1, f2, f3, f4, f5, f8, f9, h1, h2, h3]
          rfl
        refine last_ (i := 37) (N := none) #[true, true, true, true, true, true, true, true, true, true, true, true, true, true, true, true, true, true, true, true, true, true, true, true, true, true, true, true, true, true, true, true, true, true, true, true, true, true] rfl rfl (by kernel_rfl) (by decide) (fun K hK => ?_)
        obtain ⟨P9, -, -, R9, O9, B9⟩ := hHeld
        have s9 := (O9.cellAt (en - u + k) (by have := HK.out; omega)).trans (rw_at F n (en - u + k) HK.out.1)
        have z9 := O9.frozenAt (en - u + k)
        have N9 := Lib.hid (And.intro P9 (And.intro R9 (And.intro O9 B9)))
        clear P9 R9 O9 B9
        refine skip_ (w1 := ?_) (by rfl) rfl ?_ ?_
        rotate_left
        · go_simp
          rfl
        refine hK.out _ _ ?_
        clear hK K
        refine done_ (by kernel_rfl) ?_
        clear f1 f2 f3 f4 f5 f8 f9 h1 h2 h3 f6 f7 h4 h5
        have w3n := wrap_succ2 hlt HU.out.2.2.1 HU.out.2.2.2.1 HU.out.2.2.2.2.2.1
        go_wp2
        try simp only [w3n]
        clear w3n
        obtain ⟨P9, R9, O9, B9⟩ := N9.out
        obtain ⟨q1, q2, q3, q4, q5, q6, q7⟩ := HU.out
        obtain ⟨z1, z2, z3⟩ := HG.out
        have hw1 := B1.size
        refine ⟨⟨k + 1, fun i => if i = en - u + k then cv (xs (en - u + k)) (xs (st - u + k)) u k else F i, by omega, by go_num, fun i hi => ?_, bkFar P9 (by simp; omega) _, bkFar R9 (by simp; omega) _, ownN (O9.stored (en - u + k) _).1 (rw_set F n (en - u + k) _), B9.setCell (by simp; omega) _⟩, by simp [intOf]; omega⟩
        by_cases e : i = en - u + k
        · subst e
          simp only [if_true]
          rw [if_pos (by omega), show en - u + k + u - en = k by omega]
        · simp only [e, if_false]
          rw [NF.out i hi]
          by_cases e2 : en ≤ i + u ∧ i + u < en + k
          · rw [if_pos e2, if_pos (by omega)]
          · rw [if_neg e2, if_neg (by omega)]
      · obtain rfl : u = k := by omega
        have D5 := Lib.hid (ownData NO.out)
        have M5 := Lib.hid (made_any s A n c (some ⟨g5, 0, none⟩) n cap5 g5 0 F h HBT.out HU.out.2.2.2.2.2.2 wr D5.out)
        go_wp2_with (first
          | (refine wpList_load_row rfl 24 (.tmp 2) rfl (w.heap.size) rfl 24 _ (0, 0) _ NP.out Try.underlying24 rfl (S.i24 _ _ _ _) ?_)
          | (go_at_call 49; (with_reducible refine M5.out.mono ?_); rintro e w6 ⟨g, rfl, D6, hg6, hb6⟩; have R6 := Lib.hid (bkBelow NR.out hb6); have B6 := bdT hB hB.size hb6; have ND6 := Lib.hid D6)
          | (refine wpList_store_row rfl 24 (.tmp 4) (.tmp 75) rfl (w.heap.size + 1) (s.cs (some ⟨g, 0, none⟩) n n) rfl rfl 24 _ R6.out (S.i24 _ _ _ _) (S.sz S.zero s none _ 0 0 _ _) (S.one _ _ _ _) ?_))
        have hR4 := bkLt NR.out
        refine bodyPost_ret (res_ct rfl _ _ (w.heap.size + 1) 24 _ (0, 0) _ rfl (setRow_heap _ _ _ _ _ _ R6.out) Try.underlying24 rfl (S.i24 _ _ _ _)) rfl ⟨_, _, g, 0, rfl, (ND6.out.setRow (fun _ => by omega) _).congr fun i hi => ?_, below_setRow B6 (by omega) _⟩
        rw [NF.out i hi]
        unfold cG
        by_cases e2 : en ≤ i + u ∧ i < en
        · rw [if_pos e2, if_pos (by omega)]
        · rw [if_neg e2, if_neg (by omega)]
  · have m1 : ((en : Int) - (st : Int) < (st : Int)) = False := eq_false hcc
    rw [if_neg hcc] at hmn
    have HU2 := Lib.hid hmn
    clear hmn hcc
    go_enter Try.func30, Try.ntmps30
    go_upto_region 7 with (first
      | (refine wpList_load_row rfl 24 (.tmp 2) rfl (w.heap.size) rfl 24 _ (0, 0) _ P0.out Try.underlying24 rfl (S.i24 _ _ _ _) ?_)
      | (go_at_call 26; (with_reducible refine (rvalid_any s A n c b o xs (by omega) hc _ (HD.out.later hB0)).mono ?_); rintro e w1 ⟨rfl, hb1⟩; have P1 := Lib.hid (bkBelow P0.out hb1); have R1 := Lib.hid (bkBelow R0.out hb1); have B1 := bdT hB0 hB0.size hb1; have p1 := (bkCell P1.out 1).trans (show _ = some (Value.slice A n c) from rfl); have p7 := (bkCell P1.out 7).trans (show _ = some (iv s.a7) from rfl); have p8 := (bkCell P1.out 8).trans (show _ = some (iv s.a8) from rfl); have p9 := (bkCell P1.out 9).trans (show _ = some (iv s.a9) from rfl); rw [h8] at p8; rw [h9] at p9; simp only [hva])
      | (go_at_call 48; (with_reducible refine (rin_yes _ _ _ _ hu1 HU2.out).mono ?_); rintro e w5 ⟨rfl, rfl⟩))
    have CL := Lib.hid (clone_any A n c b o xs HU.out.2.2.2.2.2.2 w1 (HD.out.later B1))
    clear wse p7 p8 p9
    go_upto_region 9 with (go_at_call 51; (with_reducible refine CL.out.mono ?_); rintro e w2 ⟨v5, rfl, O5, hb2⟩; obtain ⟨g5, cap5, rfl, hg5⟩ := ownPos O5 (by have := HU.out; omega); have P2 := Lib.hid (bkBelow P1.out hb2); have R2 := Lib.hid (bkBelow R1.out hb2); have B2 := bdT B1 B1.size hb2; have O2 := Lib.hid O5)
    have HG := Lib.hid (And.intro hg5 (And.intro (bkLt P1.out) (bkLt R1.out)))
    clear p1 hg5 O5
    go_loopw [7] (fun v wr => ∃ (k : Nat) (F : Nat → Int), k ≤ u ∧ v = iv k ∧ (∀ i, i < n → F i = if en ≤ i + u ∧ i + u < en + k then cv (xs i) (xs (st - u + (i + u - en))) u (i + u - en) else xs i) ∧ wr.heap[w.heap.size]? = some (.cells (s.cs A n c) 24 (0, 0)) ∧ wr.heap[w.heap.size + 1]? = some (.cells #[Value.string ⟨#[]⟩, Value.slice none 0 0, iv 0, iv 0, iv 0, iv 0, iv 0, iv 0, iv 0, iv 0, iv 0, iv 0, iv 0] 24 (0, 0)) ∧ wr.ownsRow w1.heap.size 3 1 (.slice (some ⟨g5, 0, none⟩) n cap5) n (rw_ F n) ∧ Below w.heap.size w wr) (fun v _ => u - (intOf v).toNat)
    case atStart => exact ⟨0, xs, by omega, rfl, fun i hi => by rw [if_neg (by omega)], P2.out, R2.out, O2.out, B2⟩
    case round =>
      clear P2 R2 O2 B2
      obtain ⟨k, F, hk, rfl, hF, hP, hR, hO, hB⟩ := hrel
      have NF := Lib.hid hF
      have NP := Lib.hid hP
      have NR := Lib.hid hR
      have NO := Lib.hid hO
      clear hF hP hR hO
      have l3 : (0 : Int) ≤ (k : Int) := by omega
      by_cases hlt : k < u
      · have l4 : (k : Int) < (u : Int) := by omega
        have tD := TD.out (by have := HU.out; omega)
        subst tD
        have hD := HD.out.kept hB (HD.out.low (by have := HU.out; omega))
        have HK := Lib.hid (show en - u + k < n ∧ st - u + k < n by have := HU.out; omega)
        have x1 := hD.cell (en - u + k) HK.out.1
        have x0 := hD.cell (st - u + k) HK.out.2
        obtain ⟨f1, f2, f3, f4, f5, f6, f7, f8, f9, f10⟩ := cross_facts (HX.out (en - u + k) HK.out.1) (HX.out (st - u + k) HK.out.2) hlt HU.out.1 (show st < n by have := HU.out; omega) HU.out.2.2.2.2.2.1
        obtain ⟨h1, h2, h3, h4, h5⟩ := e_facts hlt HU.out.2.2.1 HU.out.2.2.2.1 HU.out.2.2.2.2.2.1
        have FC := Lib.hid (fun W => (floordiv_any (xs (en - u + k) * ((u : Int) - k) + xs (st - u + k) * k) u f10.1 f10.2 hu1 (le_big HU.out.2.2.1 HU.out.2.2.2.1 HU.out.2.2.2.2.2.1) W : Calls Try.prog 54 #[iv (xs (en - u + k) * ((u : Int) - k) + xs (st - u + k) * k), iv u] W fun e w' => e = .returned (iv (cv (xs (en - u + k)) (xs (st - u + k)) u k)) ∧ W = w'))
        clear f10 hD hse hen hn4
        go_upto_region 11 with (fail)
        refine start_ (n := 38) (S := fun w' => w'.heap[w.heap.size]? = some (.cells (s.cs (some ⟨b, o, none⟩) n c) 24 (0, 0)) ∧ w'.cell? ⟨b, o + (en - u + k), none⟩ = some (iv (xs (en - u + k))) ∧ w'.cell? ⟨b, o + (st - u + k), none⟩ = some (iv (xs (st - u + k))) ∧ w'.heap[w.heap.size + 1]? = some (.cells #[Value.string ⟨#[]⟩, Value.slice none 0 0, iv 0, iv 0, iv 0, iv 0, iv 0, iv 0, iv 0, iv 0, iv 0, iv 0, iv 0] 24 (0, 0)) ∧ w'.ownsRow w1.heap.size 3 1 (.slice (some ⟨g5, 0, none⟩) n cap5) n (rw_ F n) ∧ Below w.heap.size w w') (ds := [37]) #[false, false, false, false, false, false, false, false, false, false, false, false, false, false, false, false, false, false, false, false, false, false, false, false, false, false, false, false, false, false, false, false, false, false, false, false, false, false] (by kernel_rfl) rfl rfl ⟨NP.out, x1, x0, NR.out, NO.out.drew, hB.drew⟩ (fun hHeld => ?_)
        refine pure_ (i := 0) (N := some 36) (v := ?_) (a' := ?_) #[true, false, false, false, false, false, false, false, false, false, false, false, false, false, false, false, false, false, false, false, false, false, false, false, false, false, false, false, false, false, false, false, false, false, false, false, false, false] rfl rfl (by kernel_rfl) (fun _ _ _ h => h) (Or.inl ⟨by rfl, ?_⟩) ?_ ?_
        rotate_left
        · intro w'
          go_simp
          with_reducible rfl
        rotate_left
        · simp only [Act.put, List.setIfInBounds_toArray, List.set_cons_zero, List.set_cons_succ, i64_w, i32_w, f1, f2, f3, f4, f5, f8, f9, h1, h2, h3]
          rfl
        refine pure_ (i := 1) (N := some 37) (v := ?_) (a' := ?_) #[true, true, false, false, false, false, false, false, false, false, false, false, false, false, false, false, false, false, false, false, false, false, false, false, false, false, false, false, false, false, false, false, false, false, false, false, false, false] rfl rfl (by kernel_rfl) (fun _ _ _ h => h) (Or.inl ⟨by rfl, ?_⟩) ?_ ?_
        rotate_left
        · intro w'
          go_simp
          with_reducible rfl
        rotate_left
        · simp only [Act.put, List.setIfInBounds_toArray, List.set_cons_zero, List.set_cons_succ, i64_w, i32_w, f1, f2, f3, f4, f5, f8, f9, h1, h2, h3]
          rfl
        refine pure_ (i := 3) (N := some 39) (v := ?_) (a' := ?_) #[true, true, false, true, false, false, false, false, false, false, false, false, false, false, false, false, false, false, false, false, false, false, false, false, false, false, false, false, false, false, false, false, false, false, false, false, false, false] rfl rfl (by kernel_rfl) (fun _ _ _ h => h) (Or.inl ⟨by rfl, ?_⟩) ?_ ?_
        rotate_left
        · intro w'
          go_simp
          with_reducible rfl
        rotate_left
        · simp only [Act.put, List.setIfInBounds_toArray, List.set_cons_zero, List.set_cons_succ, i64_w, i32_w, f1, f2, f3, f4, f5, f8, f9, h1, h2, h3]
          rfl
        refine pure_ (i := 5) (N := some 41) (v := ?_) (a' := ?_) #[true, true, false, true, false, true, false, false, false, false, false, false, false, false, false, false, false, false, false, false, false, false, false, false, false, false, false, false, false, false, false, false, false, false, false, false, false, false] rfl rfl (by kernel_rfl) (fun _ _ _ h => h) (Or.inl ⟨by rfl, ?_⟩) ?_ ?_
        rotate_left
        · intro w'
          go_simp
          with_reducible rfl
        rotate_left
        · simp only [Act.put, List.setIfInBounds_toArray, List.set_cons_zero, List.set_cons_succ, i64_w, i32_w, f1, f2, f3, f4, f5, f8, f9, h1, h2, h3]
          rfl
        refine pure_ (i := 7) (N := some 43) (v := ?_) (a' := ?_) #[true, true, false, true, false, true, false, true, false, false, false, false, false, false, false, false, false, false, false, false, false, false, false, false, false, false, false, false, false, false, false, false, false, false, false, false, false, false] rfl rfl (by kernel_rfl) (fun _ _ _ h => h) (Or.inl ⟨by rfl, ?_⟩) ?_ ?_
        rotate_left
        · intro w'
          go_simp
          with_reducible rfl
        rotate_left
        · simp only [Act.put, List.setIfInBounds_toArray, List.set_cons_zero, List.set_cons_succ, i64_w, i32_w, f1, f2, f3, f4, f5, f8, f9, h1, h2, h3]
          rfl
        refine pure_ (i := 9) (N := some 45) (v := ?_) (a' := ?_) #[true, true, false, true, false, true, false, true, false, true, false, false, false, false, false, false, false, false, false, false, false, false, false, false, false, false, false, false, false, false, false, false, false, false, false, false, false, false] rfl rfl (by kernel_rfl) (fun _ _ _ h => h) (Or.inl ⟨by rfl, ?_⟩) ?_ ?_
        rotate_left
        · intro w'
          go_simp
          with_reducible rfl
        rotate_left
        · simp only [Act.put, List.setIfInBounds_toArray, List.set_cons_zero, List.set_cons_succ, i64_w, i32_w, f1, f2, f3, f4, f5, f8, f9, h1, h2, h3]
          rfl
        refine pure_ (i := 11) (N := some 47) (v := ?_) (a' := ?_) #[true, true, false, true, false, true, false, true, false, true, false, true, false, false, false, false, false, false, false, false, false, false, false, false, false, false, false, false, false, false, false, false, false, false, false, false, false, false] rfl rfl (by kernel_rfl) (fun _ _ _ h => h) (Or.inl ⟨by rfl, ?_⟩) ?_ ?_
        rotate_left
        · intro w'
          go_simp
          with_reducible rfl
        rotate_left
        · simp only [Act.put, List.setIfInBounds_toArray, List.set_cons_zero, List.set_cons_succ, i64_w, i32_w, f1, f2, f3, f4, f5, f8, f9, h1, h2, h3]
          rfl
        refine pure_ (i := 13) (N := some 49) (v := ?_) (a' := ?_) #[true, true, false, true, false, true, false, true, false, true, false, true, false, true, false, false, false, false, false, false, false, false, false, false, false, false, false, false, false, false, false, false, false, false, false, false, false, false] rfl rfl (by kernel_rfl) (fun _ _ _ h => h) (Or.inl ⟨by rfl, ?_⟩) ?_ ?_
        rotate_left
        · intro w'
          go_simp
          with_reducible rfl
        rotate_left
        · simp only [Act.put, List.setIfInBounds_toArray, List.set_cons_zero, List.set_cons_succ, i64_w, i32_w, f1, f2, f3, f4, f5, f8, f9, h1, h2, h3]
          rfl
        refine pure_ (i := 17) (N := some 53) (v := ?_) (a' := ?_) #[true, true, false, true, false, true, false, true, false, true, false, true, false, true, false, false, false, true, false, false, false, false, false, false, false, false, false, false, false, false, false, false, false, false, false, false, false, false] rfl rfl (by kernel_rfl) (fun _ _ _ h => h) (Or.inl ⟨by rfl, ?_⟩) ?_ ?_
        rotate_left
        · intro w'
          go_simp
          with_reducible rfl
        rotate_left
        · simp only [Act.put, List.setIfInBounds_toArray, List.set_cons_zero, List.set_cons_succ, i64_w, i32_w, f1, f2, f3, f4, f5, f8, f9, h1, h2, h3]
          rfl
        refine pure_ (i := 18) (N := some 54) (v := ?_) (a' := ?_) #[true, true, false, true, false, true, false, true, false, true, false, true, false, true, false, false, false, true, true, false, false, false, false, false, false, false, false, false, false, false, false, false, false, false, false, false, false, false] rfl rfl (by kernel_rfl) (fun _ _ _ h => h) (Or.inl ⟨by rfl, ?_⟩) ?_ ?_
        rotate_left
        · intro w'
          go_simp
          with_reducible rfl
        rotate_left
        · simp only [Act.put, List.setIfInBounds_toArray, List.set_cons_zero, List.set_cons_succ, i64_w, i32_w, f1, f2, f3, f4, f5, f8, f9, h1, h2, h3]
          rfl
        refine pure_ (i := 19) (N := some 55) (v := ?_) (a' := ?_) #[true, true, false, true, false, true, false, true, false, true, false, true, false, true, false, false, false, true, true, true, false, false, false, false, false, false, false, false, false, false, false, false, false, false, false, false, false, false] rfl rfl (by kernel_rfl) (fun _ _ _ h => h) (Or.inl ⟨by rfl, ?_⟩) ?_ ?_
        rotate_left
        · intro w'
          go_simp
          with_reducible rfl
        rotate_left
        · simp only [Act.put, List.setIfInBounds_toArray, List.set_cons_zero, List.set_cons_succ, i64_w, i32_w, f1, f2, f3, f4, f5, f8, f9, h1, h2, h3]
          rfl
        refine pure_ (i := 21) (N := some 57) (v := ?_) (a' := ?_) #[true, true, false, true, false, true, false, true, false, true, false, true, false, true, false, false, false, true, true, true, false, true, false, false, false, false, false, false, false, false, false, false, false, false, false, false, false, false] rfl rfl (by kernel_rfl) (fun _ _ _ h => h) (Or.inl ⟨by rfl, ?_⟩) ?_ ?_
        rotate_left
        · intro w'
          go_simp
          with_reducible rfl
        rotate_left
        · simp only [Act.put, List.setIfInBounds_toArray, List.set_cons_zero, List.set_cons_succ, i64_w, i32_w, f1, f2, f3, f4, f5, f8, f9, h1, h2, h3]
          rfl
        refine pure_ (i := 23) (N := some 59) (v := ?_) (a' := ?_) #[true, true, false, true, false, true, false, true, false, true, false, true, false, true, false, false, false, true, true, true, false, true, false, true, false, false, false, false, false, false, false, false, false, false, false, false, false, false] rfl rfl (by kernel_rfl) (fun _ _ _ h => h) (Or.inl ⟨by rfl, ?_⟩) ?_ ?_
        rotate_left
        · intro w'
          go_simp
          with_reducible rfl
        rotate_left
        · simp only [Act.put, List.setIfInBounds_toArray, List.set_cons_zero, List.set_cons_succ, i64_w, i32_w, f1, f2, f3, f4, f5, f8, f9, h1, h2, h3]
          rfl
        refine pure_ (i := 25) (N := some 61) (v := ?_) (a' := ?_) #[true, true, false, true, false, true, false, true, false, true, false, true, false, true, false, false, false, true, true, true, false, true, false, true, false, true, false, false, false, false, false, false, false, false, false, false, false, false] rfl rfl (by kernel_rfl) (fun _ _ _ h => h) (Or.inl ⟨by rfl, ?_⟩) ?_ ?_
        rotate_left
        · intro w'
          go_simp
          with_reducible rfl
        rotate_left
        · simp only [Act.put, List.setIfInBounds_toArray, List.set_cons_zero, List.set_cons_succ, i64_w, i32_w, f1, f2, f3, f4, f5, f8, f9, h1, h2, h3]
          rfl
        refine pure_ (i := 27) (N := some 63) (v := ?_) (a' := ?_) #[true, true, false, true, false, true, false, true, false, true, false, true, false, true, false, false, false, true, true, true, false, true, false, true, false, true, false, true, false, false, false, false, false, false, false, false, false, false] rfl rfl (by kernel_rfl) (fun _ _ _ h => h) (Or.inl ⟨by rfl, ?_⟩) ?_ ?_
        rotate_left
        · intro w'
          go_simp
          with_reducible rfl
        rotate_left
        · simp only [Act.put, List.setIfInBounds_toArray, List.set_cons_zero, List.set_cons_succ, i64_w, i32_w, f1, f2, f3, f4, f5, f8, f9, h1, h2, h3]
          rfl
        refine pure_ (i := 31) (N := some 67) (v := ?_) (a' := ?_) #[true, true, false, true, false, true, false, true, false, true, false, true, false, true, false, false, false, true, true, true, false, true, false, true, false, true, false, true, false, false, false, true, false, false, false, false, false, false] rfl rfl (by kernel_rfl) (fun _ _ _ h => h) (Or.inl ⟨by rfl, ?_⟩) ?_ ?_
        rotate_left
        · intro w'
          go_simp
          with_reducible rfl
        rotate_left
        · simp only [Act.put, List.setIfInBounds_toArray, List.set_cons_zero, List.set_cons_succ, i64_w, i32_w, f1, f2, f3, f4, f5, f8, f9, h1, h2, h3]
          rfl
        refine pure_ (i := 34) (N := some 70) (v := ?_) (a' := ?_) #[true, true, false, true, false, true, false, true, false, true, false, true, false, true, false, false, false, true, true, true, false, true, false, true, false, true, false, true, false, false, false, true, false, false, true, false, false, false] rfl rfl (by kernel_rfl) (fun _ _ _ h => h) (Or.inl ⟨by rfl, ?_⟩) ?_ ?_
        rotate_left
        · intro w'
          go_simp
          with_reducible rfl
        rotate_left
        · simp only [Act.put, List.setIfInBounds_toArray, List.set_cons_zero, List.set_cons_succ, i64_w, i32_w, f1, f2, f3, f4, f5, f8, f9, h1, h2, h3]
          rfl
        refine take_ (i := 2) (N := some 38) (v := ?_) (a' := ?_) #[true, true, true, true, false, true, false, true, false, true, false, true, false, true, false, false, false, true, true, true, false, true, false, true, false, true, false, true, false, false, false, true, false, false, true, false, false, false] rfl rfl (by kernel_rfl) (fun _ _ _ h => h) (Or.inl ⟨by rfl, ?_⟩) hHeld ?_ ?_
        rotate_left
        · rintro w' ⟨s0, s1, s2, s3, s4, s5⟩
          have q9 := (bkCell s0 9).trans (show _ = some (iv s.a9) from rfl)
          rw [H89.out.2] at q9
          clear s0 s1 s2 s3 s4 s5
          go_simp
          with_reducible rfl
        rotate_left
        · simp only [Act.put, List.setIfInBounds_toArray, List.set_cons_zero, List.set_cons_succ, i64_w, i32_w, f1, f2, f3, f4, f5, f8, f9, h1, h2, h3]
          rfl
        refine pure_ (i := 4) (N := some 40) (v := ?_) (a' := ?_) #[true, true, true, true, true, true, false, true, false, true, false, true, false, true, false, false, false, true, true, true, false, true, false, true, false, true, false, true, false, false, false, true, false, false, true, false, false, false] rfl rfl (by kernel_rfl) (fun _ _ _ h => h) (Or.inl ⟨by rfl, ?_⟩) ?_ ?_
        rotate_left
        · intro w'
          go_simp
          with_reducible rfl
        rotate_left
        · simp only [Act.put, List.setIfInBounds_toArray, List.set_cons_zero, List.set_cons_succ, i64_w, i32_w, f1, f2, f3, f4, f5, f8, f9, h1, h2, h3]
          rfl
        refine pure_ (i := 6) (N := some 42) (v := ?_) (a' := ?_) #[true, true, true, true, true, true, true, true, false, true, false, true, false, true, false, false, false, true, true, true, false, true, false, true, false, true, false, true, false, false, false, true, false, false, true, false, false, false] rfl rfl (by kernel_rfl) (fun _ _ _ h => h) (Or.inl ⟨by rfl, ?_⟩) ?_ ?_
        rotate_left
        · intro w'
          go_simp
          with_reducible rfl
        rotate_left
        · simp only [Act.put, List.setIfInBounds_toArray, List.set_cons_zero, List.set_cons_succ, i64_w, i32_w, f1, f2, f3, f4, f5, f8, f9, h1, h2, h3]
          rfl
        refine take_ (i := 8) (N := some 44) (v := ?_) (a' := ?_) #[true, true, true, true, true, true, true, true, true, true, false, true, false, true, false, false, false, true, true, true, false, true, false, true, false, true, false, true, false, false, false, true, false, false, true, false, false, false] rfl rfl (by kernel_rfl) (fun _ _ _ h => h) (Or.inl ⟨by rfl, ?_⟩) hHeld ?_ ?_
        rotate_left
        · rintro w' ⟨s0, s1, s2, s3, s4, s5⟩
          have q1 := (bkCell s0 1).trans (show _ = some (Value.slice (some ⟨b, o, none⟩) n c) from rfl)
          clear s0 s1 s2 s3 s4 s5
          go_simp
          with_reducible rfl
        rotate_left
        · simp only [Act.put, List.setIfInBounds_toArray, List.set_cons_zero, List.set_cons_succ, i64_w, i32_w, f1, f2, f3, f4, f5, f8, f9, h1, h2, h3]
          rfl
        refine take_ (i := 10) (N := some 46) (v := ?_) (a' := ?_) #[true, true, true, true, true, true, true, true, true, true, true, true, false, true, false, false, false, true, true, true, false, true, false, true, false, true, false, true, false, false, false, true, false, false, true, false, false, false] rfl rfl (by kernel_rfl) (fun _ _ _ h => h) (Or.inl ⟨by rfl, ?_⟩) hHeld ?_ ?_
        rotate_left
        · rintro w' ⟨s0, s1, s2, s3, s4, s5⟩
          have q9 := (bkCell s0 9).trans (show _ = some (iv s.a9) from rfl)
          rw [H89.out.2] at q9
          clear s0 s1 s2 s3 s4 s5
          go_simp
          with_reducible rfl
        rotate_left
        · simp only [Act.put, List.setIfInBounds_toArray, List.set_cons_zero, List.set_cons_succ, i64_w, i32_w, f1, f2, f3, f4, f5, f8, f9, h1, h2, h3]
          rfl
        refine pure_ (i := 12) (N := some 48) (v := ?_) (a' := ?_) #[true, true, true, true, true, true, true, true, true, true, true, true, true, true, false, false, false, true, true, true, false, true, false, true, false, true, false, true, false, false, false, true, false, false, true, false, false, false] rfl rfl (by kernel_rfl) (fun _ _ _ h => h) (Or.inl ⟨by rfl, ?_⟩) ?_ ?_
        rotate_left
        · intro w'
          go_simp
          with_reducible rfl
        rotate_left
        · simp only [Act.put, List.setIfInBounds_toArray, List.set_cons_zero, List.set_cons_succ, i64_w, i32_w, f1, f2, f3, f4, f5, f8, f9, h1, h2, h3]
          rfl
        refine pure_ (i := 14) (N := some 50) (v := ?_) (a' := ?_) #[true, true, true, true, true, true, true, true, true, true, true, true, true, true, true, false, false, true, true, true, false, true, false, true, false, true, false, true, false, false, false, true, false, false, true, false, false, false] rfl rfl (by kernel_rfl) (fun _ _ _ h => h) (Or.inl ⟨by rfl, ?_⟩) ?_ ?_
        rotate_left
        · intro w'
          go_simp
          with_reducible rfl
        rotate_left
        · simp only [Act.put, List.setIfInBounds_toArray, List.set_cons_zero, List.set_cons_succ, i64_w, i32_w, f1, f2, f3, f4, f5, f8, f9, h1, h2, h3]
          rfl
        refine pure_ (i := 15) (N := some 51) (v := ?_) (a' := ?_) #[true, true, true, true, true, true, true, true, true, true, true, true, true, true, true, true, false, true, true, true, false, true, false, true, false, true, false, true, false, false, false, true, false, false, true, false, false, false] rfl rfl (by kernel_rfl) (fun _ _ _ h => h) (Or.inl ⟨by rfl, ?_⟩) ?_ ?_
        rotate_left
        · intro w'
          go_simp
          with_reducible rfl
        rotate_left
        · simp only [Act.put, List.setIfInBounds_toArray, List.set_cons_zero, List.set_cons_succ, i64_w, i32_w, f1, f2, f3, f4, f5, f8, f9, h1, h2, h3]
          rfl
        refine take_ (i := 16) (N := some 52) (v := ?_) (a' := ?_) #[true, true, true, true, true, true, true, true, true, true, true, true, true, true, true, true, true, true, true, true, false, true, false, true, false, true, false, true, false, false, false, true, false, false, true, false, false, false] rfl rfl (by kernel_rfl) (fun _ _ _ h => h) (Or.inl ⟨by rfl, ?_⟩) hHeld ?_ ?_
        rotate_left
        · rintro w' ⟨s0, s1, s2, s3, s4, s5⟩
          clear s0 s2 s3 s4 s5
          go_simp
          with_reducible rfl
        rotate_left
        · simp only [Act.put, List.setIfInBounds_toArray, List.set_cons_zero, List.set_cons_succ, i64_w, i32_w, f1, f2, f3, f4, f5, f8, f9, h1, h2, h3]
          rfl
        refine pure_ (i := 20) (N := some 56) (v := ?_) (a' := ?_) #[true, true, true, true, true, true, true, true, true, true, true, true, true, true, true, true, true, true, true, true, true, true, false, true, false, true, false, true, false, false, false, true, false, false, true, false, false, false] rfl rfl (by kernel_rfl) (fun _ _ _ h => h) (Or.inl ⟨by rfl, ?_⟩) ?_ ?_
        rotate_left
        · intro w'
          go_simp
          with_reducible rfl
        rotate_left
        · simp only [Act.put, List.setIfInBounds_toArray, List.set_cons_zero, List.set_cons_succ, i64_w, i32_w, f1, f2, f3, f4, f5, f8, f9, h1, h2, h3]
          rfl
        refine take_ (i := 22) (N := some 58) (v := ?_) (a' := ?_) #[true, true, true, true, true, true, true, true, true, true, true, true, true, true, true, true, true, true, true, true, true, true, true, true, false, true, false, true, false, false, false, true, false, false, true, false, false, false] rfl rfl (by kernel_rfl) (fun _ _ _ h => h) (Or.inl ⟨by rfl, ?_⟩) hHeld ?_ ?_
        rotate_left
        · rintro w' ⟨s0, s1, s2, s3, s4, s5⟩
          have q1 := (bkCell s0 1).trans (show _ = some (Value.slice (some ⟨b, o, none⟩) n c) from rfl)
          clear s0 s1 s2 s3 s4 s5
          go_simp
          with_reducible rfl
        rotate_left
        · simp only [Act.put, List.setIfInBounds_toArray, List.set_cons_zero, List.set_cons_succ, i64_w, i32_w, f1, f2, f3, f4, f5, f8, f9, h1, h2, h3]
          rfl
        refine take_ (i := 24) (N := some 60) (v := ?_) (a' := ?_) #[true, true, true, true, true, true, true, true, true, true, true, true, true, true, true, true, true, true, true, true, true, true, true, true, true, true, false, true, false, false, false, true, false, false, true, false, false, false] rfl rfl (by kernel_rfl) (fun _ _ _ h => h) (Or.inl ⟨by rfl, ?_⟩) hHeld ?_ ?_
        rotate_left
        · rintro w' ⟨s0, s1, s2, s3, s4, s5⟩
          have q8 := (bkCell s0 8).trans (show _ = some (iv s.a8) from rfl)
          rw [H89.out.1] at q8
          clear s0 s1 s2 s3 s4 s5
          go_simp
          with_reducible rfl
        rotate_left
        · simp only [Act.put, List.setIfInBounds_toArray, List.set_cons_zero, List.set_cons_succ, i64_w, i32_w, f1, f2, f3, f4, f5, f8, f9, h1, h2, h3]
          rfl
        refine pure_ (i := 26) (N := some 62) (v := ?_) (a' := ?_) #[true, true, true, true, true, true, true, true, true, true, true, true, true, true, true, true, true, true, true, true, true, true, true, true, true, true, true, true, false, false, false, true, false, false, true, false, false, false] rfl rfl (by kernel_rfl) (fun _ _ _ h => h) (Or.inl ⟨by rfl, ?_⟩) ?_ ?_
        rotate_left
        · intro w'
          go_simp
          with_reducible rfl
        rotate_left
        · simp only [Act.put, List.setIfInBounds_toArray, List.set_cons_zero, List.set_cons_succ, i64_w, i32_w, f1, f2, f3, f4, f5, f8, f9, h1, h2, h3]
          rfl
        refine pure_ (i := 28) (N := some 64) (v := ?_) (a' := ?_) #[true, true, true, true, true, true, true, true, true, true, true, true, true, true, true, true, true, true, true, true, true, true, true, true, true, true, true, true, true, false, false, true, false, false, true, false, false, false] rfl rfl (by kernel_rfl) (fun _ _ _ h => h) (Or.inl ⟨by rfl, ?_⟩) ?_ ?_
        rotate_left
        · intro w'
          go_simp
          with_reducible rfl
        rotate_left
        · simp only [Act.put, List.setIfInBounds_toArray, List.set_cons_zero, List.set_cons_succ, i64_w, i32_w, f1, f2, f3, f4, f5, f8, f9, h1, h2, h3]
          rfl
        refine pure_ (i := 29) (N := some 65) (v := ?_) (a' := ?_) #[true, true, true, true, true, true, true, true, true, true, true, true, true, true, true, true, true, true, true, true, true, true, true, true, true, true, true, true, true, true, false, true, false, false, true, false, false, false] rfl rfl (by kernel_rfl) (fun _ _ _ h => h) (Or.inl ⟨by rfl, ?_⟩) ?_ ?_
        rotate_left
        · intro w'
          go_simp
          with_reducible rfl
        rotate_left
        · simp only [Act.put, List.setIfInBounds_toArray, List.set_cons_zero, List.set_cons_succ, i64_w, i32_w, f1, f2, f3, f4, f5, f8, f9, h1, h2, h3]
          rfl
        refine take_ (i := 30) (N := some 66) (v := ?_) (a' := ?_) #[true, true, true, true, true, true, true, true, true, true, true, true, true, true, true, true, true, true, true, true, true, true, true, true, true, true, true, true, true, true, true, true, false, false, true, false, false, false] rfl rfl (by kernel_rfl) (fun _ _ _ h => h) (Or.inl ⟨by rfl, ?_⟩) hHeld ?_ ?_
        rotate_left
        · rintro w' ⟨s0, s1, s2, s3, s4, s5⟩
          clear s0 s1 s3 s4 s5
          go_simp
          with_reducible rfl
        rotate_left
        · simp only [Act.put, List.setIfInBounds_toArray, List.set_cons_zero, List.set_cons_succ, i64_w, i32_w, f1, f2, f3, f4, f5, f8, f9, h1, h2, h3]
          rfl
        refine pure_ (i := 32) (N := some 68) (v := ?_) (a' := ?_) #[true, true, true, true, true, true, true, true, true, true, true, true, true, true, true, true, true, true, true, true, true, true, true, true, true, true, true, true, true, true, true, true, true, false, true, false, false, false] rfl rfl (by kernel_rfl) (fun _ _ _ h => h) (Or.inl ⟨by rfl, ?_⟩) ?_ ?_
        rotate_left
        · intro w'
          go_simp
          with_reducible rfl
        rotate_left
        · simp only [Act.put, List.setIfInBounds_toArray, List.set_cons_zero, List.set_cons_succ, i64_w, i32_w, f1, f2, f3, f4, f5, f8, f9, h1, h2, h3]
          rfl
        refine pure_ (i := 33) (N := some 69) (v := ?_) (a' := ?_) #[true, true, true, true, true, true, true, true, true, true, true, true, true, true, true, true, true, true, true, true, true, true, true, true, true, true, true, true, true, true, true, true, true, true, true, false, false, false] rfl rfl (by kernel_rfl) (fun _ _ _ h => h) (Or.inl ⟨by rfl, ?_⟩) ?_ ?_
        rotate_left
        · intro w'
          go_simp
          with_reducible rfl
        rotate_left
        · simp only [Act.put, List.setIfInBounds_toArray, List.set_cons_zero, List.set_cons_succ, i64_w, i32_w, f1, f2, f3, f4, f5, f8, f9, h1, h2, h3]
          rfl
        refine one_ (i := 35) (N := some 71) #[true, true, true, true, true, true, true, true, true, true, true, true, true, true, true, true, true, true, true, true, true, true, true, true, true, true, true, true, true, true, true, true, true, true, true, true, false, false] rfl rfl (by kernel_rfl) (by decide) (fun K hK => ?_)
        obtain ⟨s0, s1, s2, s3, s4, s5⟩ := hHeld
        refine goes_ Try.func54 (by kernel_rfl) rfl #[iv (xs (en - u + k) * ((u : Int) - k) + xs (st - u + k) * k), iv u] (by rfl) rfl rfl (by simp only [List.map_toArray, List.map_cons, List.map_nil]; rfl) ?_
        with_reducible refine (FC.out _).mono ?_
        rintro e w4 ⟨rfl, rfl⟩
        refine ⟨_, rfl, ?_⟩
        refine hK.out _ _ ⟨s0, s1, s2, s3, s4, s5⟩ (fun hHeld => ?_)
        clear hK K
        refine norm_ (a' := ?_) ?_ ?_
        rotate_left
        · show Act.put _ (some 71) _ = _
          simp only [Act.put, List.setIfInBounds_toArray, List.set_cons_zero, List.set_cons_succ, i64_w, i32_w, f1, f2, f3, f4, f5, f8, f9, h1, h2, h3]
          rfl
        refine pure_ (i := 36) (N := some 72) (v := ?_) (a' := ?_) #[true, true, true, true, true, true, true, true, true, true, true, true, true, true, true, true, true, true, true, true, true, true, true, true, true, true, true, true, true, true, true, true, true, true, true, true, true, false] rfl rfl (by kernel_rfl) (fun _ _ _ h => h) (Or.inl ⟨by rfl, ?_⟩) ?_ ?_
        rotate_left
        · intro w'
          go_simp
          with_reducible rfl
        rotate_left
        · simp only [Act.put, List.setIfInBounds_toArray, List.set_cons_zero, List.set_cons_succ, i64_w, i32_w, f1, f2, f3, f4, f5, f8, f9, h1, h2, h3]
          rfl
        refine last_ (i := 37) (N := none) #[true, true, true, true, true, true, true, true, true, true, true, true, true, true, true, true, true, true, true, true, true, true, true, true, true, true, true, true, true, true, true, true, true, true, true, true, true, true] rfl rfl (by kernel_rfl) (by decide) (fun K hK => ?_)
        obtain ⟨P9, -, -, R9, O9, B9⟩ := hHeld
        have s9 := (O9.cellAt (en - u + k) (by have := HK.out; omega)).trans (rw_at F n (en - u + k) HK.out.1)
        have z9 := O9.frozenAt (en - u + k)
        have N9 := Lib.hid (And.intro P9 (And.intro R9 (And.intro O9 B9)))
        clear P9 R9 O9 B9
        refine skip_ (w1 := ?_) (by rfl) rfl ?_ ?_
        rotate_left
        · go_simp
          rfl
        refine hK.out _ _ ?_
        clear hK K
        refine done_ (by kernel_rfl) ?_
        clear f1 f2 f3 f4 f5 f8 f9 h1 h2 h3 f6 f7 h4 h5
        have w3n := wrap_succ2 hlt HU.out.2.2.1 HU.out.2.2.2.1 HU.out.2.2.2.2.2.1
        go_wp2
        try simp only [w3n]
        clear w3n
        obtain ⟨P9, R9, O9, B9⟩ := N9.out
        obtain ⟨q1, q2, q3, q4, q5, q6, q7⟩ := HU.out
        obtain ⟨z1, z2, z3⟩ := HG.out
        have hw1 := B1.size
        refine ⟨⟨k + 1, fun i => if i = en - u + k then cv (xs (en - u + k)) (xs (st - u + k)) u k else F i, by omega, by go_num, fun i hi => ?_, bkFar P9 (by simp; omega) _, bkFar R9 (by simp; omega) _, ownN (O9.stored (en - u + k) _).1 (rw_set F n (en - u + k) _), B9.setCell (by simp; omega) _⟩, by simp [intOf]; omega⟩
        by_cases e : i = en - u + k
        · subst e
          simp only [if_true]
          rw [if_pos (by omega), show en - u + k + u - en = k by omega]
        · simp only [e, if_false]
          rw [NF.out i hi]
          by_cases e2 : en ≤ i + u ∧ i + u < en + k
          · rw [if_pos e2, if_pos (by omega)]
          · rw [if_neg e2, if_neg (by omega)]
      · obtain rfl : u = k := by omega
        have D5 := Lib.hid (ownData NO.out)
        have M5 := Lib.hid (made_any s A n c (some ⟨g5, 0, none⟩) n cap5 g5 0 F h HBT.out HU.out.2.2.2.2.2.2 wr D5.out)
        go_wp2_with (first
          | (refine wpList_load_row rfl 24 (.tmp 2) rfl (w.heap.size) rfl 24 _ (0, 0) _ NP.out Try.underlying24 rfl (S.i24 _ _ _ _) ?_)
          | (go_at_call 49; (with_reducible refine M5.out.mono ?_); rintro e w6 ⟨g, rfl, D6, hg6, hb6⟩; have R6 := Lib.hid (bkBelow NR.out hb6); have B6 := bdT hB hB.size hb6; have ND6 := Lib.hid D6)
          | (refine wpList_store_row rfl 24 (.tmp 4) (.tmp 75) rfl (w.heap.size + 1) (s.cs (some ⟨g, 0, none⟩) n n) rfl rfl 24 _ R6.out (S.i24 _ _ _ _) (S.sz S.zero s none _ 0 0 _ _) (S.one _ _ _ _) ?_))
        have hR4 := bkLt NR.out
        refine bodyPost_ret (res_ct rfl _ _ (w.heap.size + 1) 24 _ (0, 0) _ rfl (setRow_heap _ _ _ _ _ _ R6.out) Try.underlying24 rfl (S.i24 _ _ _ _)) rfl ⟨_, _, g, 0, rfl, (ND6.out.setRow (fun _ => by omega) _).congr fun i hi => ?_, below_setRow B6 (by omega) _⟩
        rw [NF.out i hi]
        unfold cG
        by_cases e2 : en ≤ i + u ∧ i < en
        · rw [if_pos e2, if_pos (by omega)]
        · rw [if_neg e2, if_neg (by omega)]
end Go.Proofs.Ytejnhhjldddbdaa.TX

/- A sample whose loop is faded into what stands before it: both functions, and the law. -/
import Derived.Test.YtnmoiolddfboiaaTzJ
namespace Go.Proofs.Ytnmoiolddfboiaa.TX
open Go.RowKit Go.Proofs.YtnmoiolddfboiaaW.PrintLast
set_option linter.unusedVariables false
set_option linter.unusedSimpArgs false
theorem e_facts {u k en n : Nat} (hk : k < u) (hu : u ≤ en) (he : en ≤ n) (hn : (n : Int) ≤ 4096) : wrap64 ((en : Int) - u) = (en : Int) - u ∧ wrap64 ((en : Int) - u + k) = (en : Int) - u + k ∧ ((en : Int) - u + k).toNat = en - u + k ∧ 0 ≤ (en : Int) - u + k ∧ (en : Int) - u + k < n := ⟨wrap_in (by omega) (by omega), wrap_in (by omega) (by omega), by omega, by omega, by omega⟩
theorem wrap_succ2 {u k en n : Nat} (hk : k < u) (hu : u ≤ en) (he : en ≤ n) (hn : (n : Int) ≤ 4096) : wrap64 ((k : Int) + 1) = (k : Int) + 1 := wrap_in (by omega) (by omega)
theorem le_big {u en n : Nat} (hu : u ≤ en) (he : en ≤ n) (hn : (n : Int) ≤ 4096) : (u : Int) ≤ 1000000000000000 := by omega
set_option maxHeartbeats 16000000 in
set_option maxRecDepth 100000 in
theorem cross_bad (s : S) (A : Option Addr) (n c b o : Nat) (xs : Nat → Int) (w : World) (hA : DataAt w A n b o xs) (hn : (n : Int) ≤ 1000000) (hc : n ≤ c) (t : Int) (hva : vS s n xs = false) :
    Calls Try.prog 53 #[.agg (s.cs A n c), iv t] w fun e w' => e = .returned (.tuple #[.agg (S.zero.cs none 0 0), iv 1]) ∧ Below w.heap.size w w' := by
  have hB0 : Below w.heap.size w (((w.alloc (Obj.cells (s.cs A n c) 24)).alloc (Obj.cells #[iv t] 3)).alloc (Obj.cells #[Value.string ⟨#[]⟩, Value.slice none 0 0, iv 0, iv 0, iv 0, iv 0, iv 0, iv 0, iv 0, iv 0, iv 0, iv 0, iv 0] 24)) := (((Below.refl _ _).alloc (Nat.le_refl _) _).alloc (by simp) _).alloc (by simp; omega) _
  have P0 := Lib.hid (al3a w (Obj.cells (s.cs A n c) 24) (Obj.cells #[iv t] 3) (Obj.cells #[Value.string ⟨#[]⟩, Value.slice none 0 0, iv 0, iv 0, iv 0, iv 0, iv 0, iv 0, iv 0, iv 0, iv 0, iv 0, iv 0] 24))
  have K0 := Lib.hid (al3b w (Obj.cells (s.cs A n c) 24) (Obj.cells #[iv t] 3) (Obj.cells #[Value.string ⟨#[]⟩, Value.slice none 0 0, iv 0, iv 0, iv 0, iv 0, iv 0, iv 0, iv 0, iv 0, iv 0, iv 0, iv 0] 24))
  have R0 := Lib.hid (al3c w (Obj.cells (s.cs A n c) 24) (Obj.cells #[iv t] 3) (Obj.cells #[Value.string ⟨#[]⟩, Value.slice none 0 0, iv 0, iv 0, iv 0, iv 0, iv 0, iv 0, iv 0, iv 0, iv 0, iv 0, iv 0] 24))
  have HD := Lib.hid hA
  have TD := Lib.hid hA.top
  clear hA
  have l0 : (0 : Int) ≤ (n : Int) := by omega
  go_enter Try.func53, Try.ntmps53
  go_wp2_with (first
    | (refine wpList_load_row rfl 24 (.tmp 2) rfl (w.heap.size) rfl 24 _ (0, 0) _ P0.out Try.underlying24 rfl (S.i24 _ _ _ _) ?_)
    | (go_at_call 15; (with_reducible refine (valid_any s A n c b o xs (by omega) hc _ (HD.out.later hB0)).mono ?_); rintro e w1 ⟨rfl, hb1⟩; have P1 := Lib.hid (bkBelow P0.out hb1); have K1 := Lib.hid (bkBelow K0.out hb1); have R1 := Lib.hid (bkBelow R0.out hb1); have B1 := bdT hB0 hB0.size hb1; have p1 := (bkCell P1.out 1).trans (show _ = some (Value.slice A n c) from rfl); have p7 := (bkCell P1.out 7).trans (show _ = some (iv s.a7) from rfl); have p8 := (bkCell P1.out 8).trans (show _ = some (iv s.a8) from rfl); have p9 := (bkCell P1.out 9).trans (show _ = some (iv s.a9) from rfl); have k0 := (bkCell K1.out 0).trans (show _ = some (iv t) from rfl);  simp only [hva])
    | (refine wpBuild0 rfl 24 rfl (S.zero.cs none 0 0) built24 ?_)
    | (refine wpList_store_row rfl 24 (.tmp 4) (.tmp 9) rfl (w.heap.size + 1 + 1) (S.zero.cs none 0 0) rfl rfl 24 _ R1.out (S.i24 _ _ _ _) (S.sz S.zero S.zero none none 0 0 0 0) (S.one _ _ _ _) ?_))
  refine bodyPost_ret (res_ct rfl _ _ (w.heap.size + 1 + 1) 24 _ (0, 0) _ rfl (setRow_heap _ _ _ _ _ _ R1.out) Try.underlying24 rfl (S.i24 _ _ _ _)) rfl ⟨rfl, below_setRow B1 (by omega) _⟩
set_option maxHeartbeats 16000000 in
set_option maxRecDepth 100000 in
theorem cross_kind (s : S) (A : Option Addr) (n c b o : Nat) (xs : Nat → Int) (w : World) (hA : DataAt w A n b o xs) (hn : (n : Int) ≤ 1000000) (hc : n ≤ c) (t : Int) (hva : vS s n xs = true) (h7 : s.a7 ≠ 1) :
    Calls Try.prog 53 #[.agg (s.cs A n c), iv t] w fun e w' => e = .returned (.tuple #[.agg (S.zero.cs none 0 0), iv 6]) ∧ Below w.heap.size w w' := by
  have hB0 : Below w.heap.size w (((w.alloc (Obj.cells (s.cs A n c) 24)).alloc (Obj.cells #[iv t] 3)).alloc (Obj.cells #[Value.string ⟨#[]⟩, Value.slice none 0 0, iv 0, iv 0, iv 0, iv 0, iv 0, iv 0, iv 0, iv 0, iv 0, iv 0, iv 0] 24)) := (((Below.refl _ _).alloc (Nat.le_refl _) _).alloc (by simp) _).alloc (by simp; omega) _
  have P0 := Lib.hid (al3a w (Obj.cells (s.cs A n c) 24) (Obj.cells #[iv t] 3) (Obj.cells #[Value.string ⟨#[]⟩, Value.slice none 0 0, iv 0, iv 0, iv 0, iv 0, iv 0, iv 0, iv 0, iv 0, iv 0, iv 0, iv 0] 24))
  have K0 := Lib.hid (al3b w (Obj.cells (s.cs A n c) 24) (Obj.cells #[iv t] 3) (Obj.cells #[Value.string ⟨#[]⟩, Value.slice none 0 0, iv 0, iv 0, iv 0, iv 0, iv 0, iv 0, iv 0, iv 0, iv 0, iv 0, iv 0] 24))
  have R0 := Lib.hid (al3c w (Obj.cells (s.cs A n c) 24) (Obj.cells #[iv t] 3) (Obj.cells #[Value.string ⟨#[]⟩, Value.slice none 0 0, iv 0, iv 0, iv 0, iv 0, iv 0, iv 0, iv 0, iv 0, iv 0, iv 0, iv 0] 24))
  have HD := Lib.hid hA
  have TD := Lib.hid hA.top
  clear hA
  have l0 : (0 : Int) ≤ (n : Int) := by omega
  have e7 : (s.a7 != 1) = true := by simp [h7]
  go_enter Try.func53, Try.ntmps53
  go_wp2_with (first
    | (refine wpList_load_row rfl 24 (.tmp 2) rfl (w.heap.size) rfl 24 _ (0, 0) _ P0.out Try.underlying24 rfl (S.i24 _ _ _ _) ?_)
    | (go_at_call 15; (with_reducible refine (valid_any s A n c b o xs (by omega) hc _ (HD.out.later hB0)).mono ?_); rintro e w1 ⟨rfl, hb1⟩; have P1 := Lib.hid (bkBelow P0.out hb1); have K1 := Lib.hid (bkBelow K0.out hb1); have R1 := Lib.hid (bkBelow R0.out hb1); have B1 := bdT hB0 hB0.size hb1; have p1 := (bkCell P1.out 1).trans (show _ = some (Value.slice A n c) from rfl); have p7 := (bkCell P1.out 7).trans (show _ = some (iv s.a7) from rfl); have p8 := (bkCell P1.out 8).trans (show _ = some (iv s.a8) from rfl); have p9 := (bkCell P1.out 9).trans (show _ = some (iv s.a9) from rfl); have k0 := (bkCell K1.out 0).trans (show _ = some (iv t) from rfl);  simp only [hva])
    | (refine wpBuild0 rfl 24 rfl (S.zero.cs none 0 0) built24 ?_)
    | (refine wpList_store_row rfl 24 (.tmp 4) (.tmp 13) rfl (w.heap.size + 1 + 1) (S.zero.cs none 0 0) rfl rfl 24 _ R1.out (S.i24 _ _ _ _) (S.sz S.zero S.zero none none 0 0 0 0) (S.one _ _ _ _) ?_))
  refine bodyPost_ret (res_ct rfl _ _ (w.heap.size + 1 + 1) 24 _ (0, 0) _ rfl (setRow_heap _ _ _ _ _ _ R1.out) Try.underlying24 rfl (S.i24 _ _ _ _)) rfl ⟨rfl, below_setRow B1 (by omega) _⟩
set_option maxHeartbeats 16000000 in
set_option maxRecDepth 100000 in
theorem cross_range (s : S) (A : Option Addr) (n c b o : Nat) (xs : Nat → Int) (w : World) (hA : DataAt w A n b o xs) (hn : (n : Int) ≤ 1000000) (hc : n ≤ c) (t : Int) (hva : vS s n xs = true) (h7 : s.a7 = 1) (st en : Nat) (h8 : s.a8 = st) (h9 : s.a9 = en) (hse : st < en) (hen : en ≤ n) (hn4 : (n : Int) ≤ 4096) (hmn : t < 1 ∨ (if (en : Int) - (st : Int) < (st : Int) then (en : Int) - (st : Int) else (st : Int)) < t) :
    Calls Try.prog 53 #[.agg (s.cs A n c), iv t] w fun e w' => e = .returned (.tuple #[.agg (S.zero.cs none 0 0), iv 5]) ∧ Below w.heap.size w w' := by
  have hB0 : Below w.heap.size w (((w.alloc (Obj.cells (s.cs A n c) 24)).alloc (Obj.cells #[iv t] 3)).alloc (Obj.cells #[Value.string ⟨#[]⟩, Value.slice none 0 0, iv 0, iv 0, iv 0, iv 0, iv 0, iv 0, iv 0, iv 0, iv 0, iv 0, iv 0] 24)) := (((Below.refl _ _).alloc (Nat.le_refl _) _).alloc (by simp) _).alloc (by simp; omega) _
  have P0 := Lib.hid (al3a w (Obj.cells (s.cs A n c) 24) (Obj.cells #[iv t] 3) (Obj.cells #[Value.string ⟨#[]⟩, Value.slice none 0 0, iv 0, iv 0, iv 0, iv 0, iv 0, iv 0, iv 0, iv 0, iv 0, iv 0, iv 0] 24))
  have K0 := Lib.hid (al3b w (Obj.cells (s.cs A n c) 24) (Obj.cells #[iv t] 3) (Obj.cells #[Value.string ⟨#[]⟩, Value.slice none 0 0, iv 0, iv 0, iv 0, iv 0, iv 0, iv 0, iv 0, iv 0, iv 0, iv 0, iv 0] 24))
  have R0 := Lib.hid (al3c w (Obj.cells (s.cs A n c) 24) (Obj.cells #[iv t] 3) (Obj.cells #[Value.string ⟨#[]⟩, Value.slice none 0 0, iv 0, iv 0, iv 0, iv 0, iv 0, iv 0, iv 0, iv 0, iv 0, iv 0, iv 0] 24))
  have HD := Lib.hid hA
  have TD := Lib.hid hA.top
  clear hA
  have l0 : (0 : Int) ≤ (n : Int) := by omega
  have e7 : (s.a7 != 1) = false := by simp [h7]
  have wse : wrap64 ((en : Int) - (st : Int)) = (en : Int) - (st : Int) := wrap_in (by omega) (by omega)
  by_cases hcc : (en : Int) - (st : Int) < (st : Int)
  · have m1 : ((en : Int) - (st : Int) < (st : Int)) = True := eq_true hcc
    rw [if_pos hcc] at hmn
    have HNO := Lib.hid hmn
    clear hmn hcc
    go_enter Try.func53, Try.ntmps53
    go_wp2_with (first
      | (refine wpList_load_row rfl 24 (.tmp 2) rfl (w.heap.size) rfl 24 _ (0, 0) _ P0.out Try.underlying24 rfl (S.i24 _ _ _ _) ?_)
      | (go_at_call 15; (with_reducible refine (valid_any s A n c b o xs (by omega) hc _ (HD.out.later hB0)).mono ?_); rintro e w1 ⟨rfl, hb1⟩; have P1 := Lib.hid (bkBelow P0.out hb1); have K1 := Lib.hid (bkBelow K0.out hb1); have R1 := Lib.hid (bkBelow R0.out hb1); have B1 := bdT hB0 hB0.size hb1; have p1 := (bkCell P1.out 1).trans (show _ = some (Value.slice A n c) from rfl); have p7 := (bkCell P1.out 7).trans (show _ = some (iv s.a7) from rfl); have p8 := (bkCell P1.out 8).trans (show _ = some (iv s.a8) from rfl); have p9 := (bkCell P1.out 9).trans (show _ = some (iv s.a9) from rfl); have k0 := (bkCell K1.out 0).trans (show _ = some (iv t) from rfl); rw [h8] at p8; rw [h9] at p9; simp only [hva])
      | (go_at_call 87; (with_reducible refine (in_no _ _ _ _ HNO.out).mono ?_); rintro e w5 ⟨rfl, rfl⟩)
      | (refine wpBuild0 rfl 24 rfl (S.zero.cs none 0 0) built24 ?_)
      | (refine wpList_store_row rfl 24 (.tmp 4) (.tmp 25) rfl (w.heap.size + 1 + 1) (S.zero.cs none 0 0) rfl rfl 24 _ R1.out (S.i24 _ _ _ _) (S.sz S.zero S.zero none none 0 0 0 0) (S.one _ _ _ _) ?_))
    refine bodyPost_ret (res_ct rfl _ _ (w.heap.size + 1 + 1) 24 _ (0, 0) _ rfl (setRow_heap _ _ _ _ _ _ R1.out) Try.underlying24 rfl (S.i24 _ _ _ _)) rfl ⟨rfl, below_setRow B1 (by omega) _⟩
  · have m1 : ((en : Int) - (st : Int) < (st : Int)) = False := eq_false hcc
    rw [if_neg hcc] at hmn
    have HNO := Lib.hid hmn
    clear hmn hcc
    go_enter Try.func53, Try.ntmps53
    go_wp2_with (first
      | (refine wpList_load_row rfl 24 (.tmp 2) rfl (w.heap.size) rfl 24 _ (0, 0) _ P0.out Try.underlying24 rfl (S.i24 _ _ _ _) ?_)
      | (go_at_call 15; (with_reducible refine (valid_any s A n c b o xs (by omega) hc _ (HD.out.later hB0)).mono ?_); rintro e w1 ⟨rfl, hb1⟩; have P1 := Lib.hid (bkBelow P0.out hb1); have K1 := Lib.hid (bkBelow K0.out hb1); have R1 := Lib.hid (bkBelow R0.out hb1); have B1 := bdT hB0 hB0.size hb1; have p1 := (bkCell P1.out 1).trans (show _ = some (Value.slice A n c) from rfl); have p7 := (bkCell P1.out 7).trans (show _ = some (iv s.a7) from rfl); have p8 := (bkCell P1.out 8).trans (show _ = some (iv s.a8) from rfl); have p9 := (bkCell P1.out 9).trans (show _ = some (iv s.a9) from rfl); have k0 := (bkCell K1.out 0).trans (show _ = some (iv t) from rfl); rw [h8] at p8; rw [h9] at p9; simp only [hva])
      | (go_at_call 87; (with_reducible refine (in_no _ _ _ _ HNO.out).mono ?_); rintro e w5 ⟨rfl, rfl⟩)
      | (refine wpBuild0 rfl 24 rfl (S.zero.cs none 0 0) built24 ?_)
      | (refine wpList_store_row rfl 24 (.tmp 4) (.tmp 25) rfl (w.heap.size + 1 + 1) (S.zero.cs none 0 0) rfl rfl 24 _ R1.out (S.i24 _ _ _ _) (S.sz S.zero S.zero none none 0 0 0 0) (S.one _ _ _ _) ?_))
    refine bodyPost_ret (res_ct rfl _ _ (w.heap.size + 1 + 1) 24 _ (0, 0) _ rfl (setRow_heap _ _ _ _ _ _ R1.out) Try.underlying24 rfl (S.i24 _ _ _ _)) rfl ⟨rfl, below_setRow B1 (by omega) _⟩
/-- a frame of the faded sample -/
def cG (xs : Nat → Int) (st en u i : Nat) : Int := if en ≤ i + u ∧ i < en then cv (xs i) (xs (st - u + (i + u - en))) u (i + u - en) else xs i
theorem ownPos {w : World} {B n : Nat} {v : Value} {xs : List Value} (h : w.ownsRow B 3 1 v n xs) (hn : 0 < n) : ∃ g cap, v = .slice (some ⟨g, 0, none⟩) n cap ∧ B ≤ g := by
  rcases h.2 with ⟨_, h1⟩ | ⟨g, cap, cur, rfl, h1, _⟩
  · omega
  · exact ⟨g, cap, rfl, h1⟩
set_option maxHeartbeats 16000000 in
set_option maxRecDepth 100000 in
theorem cross_ok (s : S) (A : Option Addr) (n c b o : Nat) (xs : Nat → Int) (w : World) (hA : DataAt w A n b o xs) (hn : (n : Int) ≤ 1000000) (hc : n ≤ c) (h : Int) (hb : Bits s.a2 h) (hx : ∀ i, i < n → -h ≤ xs i ∧ xs i ≤ h - 1) (hva : vS s n xs = true) (h7 : s.a7 = 1) (st en : Nat) (h8 : s.a8 = st) (h9 : s.a9 = en) (hse : st < en) (hen : en ≤ n) (hn4 : (n : Int) ≤ 4096) (u : Nat) (hu1 : (1 : Int) ≤ (u : Int)) (hmn : (u : Int) ≤ (if (en : Int) - (st : Int) < (st : Int) then (en : Int) - (st : Int) else (st : Int))) :
    Calls Try.prog 53 #[.agg (s.cs A n c), iv u] w fun e w' => ∃ A' c' b o, e = .returned (.tuple #[.agg (s.cs A' n c'), iv 0]) ∧ DataAt w' A' n b o (fun i => clp h (cG xs st en u i)) ∧ Below w.heap.size w w' := by
  have hB0 : Below w.heap.size w (((w.alloc (Obj.cells (s.cs A n c) 24)).alloc (Obj.cells #[iv u] 3)).alloc (Obj.cells #[Value.string ⟨#[]⟩, Value.slice none 0 0, iv 0, iv 0, iv 0, iv 0, iv 0, iv 0, iv 0, iv 0, iv 0, iv 0, iv 0] 24)) := (((Below.refl _ _).alloc (Nat.le_refl _) _).alloc (by simp) _).alloc (by simp; omega) _
  have P0 := Lib.hid (al3a w (Obj.cells (s.cs A n c) 24) (Obj.cells #[iv u] 3) (Obj.cells #[Value.string ⟨#[]⟩, Value.slice none 0 0, iv 0, iv 0, iv 0, iv 0, iv 0, iv 0, iv 0, iv 0, iv 0, iv 0, iv 0] 24))
  have K0 := Lib.hid (al3b w (Obj.cells (s.cs A n c) 24) (Obj.cells #[iv u] 3) (Obj.cells #[Value.string ⟨#[]⟩, Value.slice none 0 0, iv 0, iv 0, iv 0, iv 0, iv 0, iv 0, iv 0, iv 0, iv 0, iv 0, iv 0] 24))
  have R0 := Lib.hid (al3c w (Obj.cells (s.cs A n c) 24) (Obj.cells #[iv u] 3) (Obj.cells #[Value.string ⟨#[]⟩, Value.slice none 0 0, iv 0, iv 0, iv 0, iv 0, iv 0, iv 0, iv 0, iv 0, iv 0, iv 0, iv 0] 24))
  have HD := Lib.hid hA
  have TD := Lib.hid hA.top
  clear hA
  have l0 : (0 : Int) ≤ (n : Int) := by omega
  have e7 : (s.a7 != 1) = false := by simp [h7]
  have HBD := bits_bd hb
  have HU := Lib.hid (show u ≤ st ∧ 0 < u ∧ u ≤ en ∧ en ≤ n ∧ st < en ∧ (n : Int) ≤ 4096 ∧ n ≤ 1000000 by revert hmn; split <;> (intro hmn; omega))
  have HX := Lib.hid (show ∀ j, j < n → -32768 ≤ xs j ∧ xs j ≤ 32768 from fun j hj => by have := hx j hj; omega)
  have HBT := Lib.hid hb
  have H89 := Lib.hid (And.intro h8 h9)
  have wse : wrap64 ((en : Int) - (st : Int)) = (en : Int) - (st : Int) := wrap_in (by omega) (by omega)
  clear hb hx
  by_cases hcc : (en : Int) - (st : Int) < (st : Int)
  · have m1 : ((en : Int) - (st : Int) < (st : Int)) = True := eq_true hcc
    rw [if_pos hcc] at hmn
    have HU2 := Lib.hid hmn
    clear hmn hcc
    go_enter Try.func53, Try.ntmps53
    go_upto_region 7 with (first
      | (refine wpList_load_row rfl 24 (.tmp 2) rfl (w.heap.size) rfl 24 _ (0, 0) _ P0.out Try.underlying24 rfl (S.i24 _ _ _ _) ?_)
      | (go_at_call 15; (with_reducible refine (valid_any s A n c b o xs (by omega) hc _ (HD.out.later hB0)).mono ?_); rintro e w1 ⟨rfl, hb1⟩; have P1 := Lib.hid (bkBelow P0.out hb1); have K1 := Lib.hid (bkBelow K0.out hb1); have R1 := Lib.hid (bkBelow R0.out hb1); have B1 := bdT hB0 hB0.size hb1; have p1 := (bkCell P1.out 1).trans (show _ = some (Value.slice A n c) from rfl); have p7 := (bkCell P1.out 7).trans (show _ = some (iv s.a7) from rfl); have p8 := (bkCell P1.out 8).trans (show _ = some (iv s.a8) from rfl); have p9 := (bkCell P1.out 9).trans (show _ = some (iv s.a9) from rfl); have k0 := (bkCell K1.out 0).trans (show _ = some (iv u) from rfl); rw [h8] at p8; rw [h9] at p9; simp only [hva])
      | (go_at_call 87; (with_reducible refine (in_yes _ _ _ _ hu1 HU2.out).mono ?_); rintro e w5 ⟨rfl, rfl⟩))
    clear wse p1 p7 p8 p9 k0
    have D5 := HD.out.later B1
    have M5 := Lib.hid (mapped_any s A n c b o xs h HBT.out HU.out.2.2.2.2.2.2 100 #[.pointer (some ⟨w.heap.size, 0, none⟩), .pointer (some ⟨w.heap.size + 1, 0, none⟩)] (enters_of Try.func100 (by kernel_rfl) rfl) (cG xs st en u) w1 D5 (fun W i hW hi => by
      obtain ⟨q1, q2, q3, q4, q5, q6, q7⟩ := HU.out
      have hxi := HX.out i hi
      by_cases hin : en ≤ i + u ∧ i < en
      · rw [show cG xs st en u i = cv (xs i) (xs (st - u + (i + u - en))) u (i + u - en) from if_pos hin]
        exact crossfn_in i n c (w.heap.size) (w.heap.size + 1) b o st en u (xs i) s A xs W H89.out.1 H89.out.2 q1 q5 q4 q6 q2 q3 (by omega) (i + u - en) (by omega) (by omega) hxi HX.out (bkBelow P1.out hW) (bkBelow K1.out hW) (D5.later hW)
      · rw [show cG xs st en u i = xs i from if_neg hin]
        exact crossfn_out i n c (w.heap.size) (w.heap.size + 1) b o st en u (xs i) s A xs W H89.out.1 H89.out.2 q1 q5 q4 q6 q2 q3 (by omega) (by omega) (bkBelow P1.out hW) (bkBelow K1.out hW) (D5.later hW)))
    clear D5
    have hR4 := bkLt R1.out
    have HR4 := Lib.hid hR4
    clear hR4
    go_wp2_with (first
      | (refine wpList_load_row rfl 24 (.tmp 2) rfl (w.heap.size) rfl 24 _ (0, 0) _ P1.out Try.underlying24 rfl (S.i24 _ _ _ _) ?_)
      | (go_at_call 96; (with_reducible refine M5.out.mono ?_); rintro e w6 ⟨g, rfl, D6, hg6, hb6⟩; have R6 := Lib.hid (bkBelow R1.out hb6); have B6 := bdT B1 B1.size hb6; have ND6 := Lib.hid D6)
      | (refine wpList_store_row rfl 24 (.tmp 4) (.tmp 28) rfl (w.heap.size + 1 + 1) (s.cs (some ⟨g, 0, none⟩) n n) rfl rfl 24 _ R6.out (S.i24 _ _ _ _) (S.sz S.zero s none _ 0 0 _ _) (S.one _ _ _ _) ?_))
    have hR4 := HR4.out
    refine bodyPost_ret (res_ct rfl _ _ (w.heap.size + 1 + 1) 24 _ (0, 0) _ rfl (setRow_heap _ _ _ _ _ _ R6.out) Try.underlying24 rfl (S.i24 _ _ _ _)) rfl ⟨_, _, g, 0, rfl, ND6.out.setRow (fun _ => by omega) _, below_setRow B6 (by omega) _⟩
  · have m1 : ((en : Int) - (st : Int) < (st : Int)) = False := eq_false hcc
    rw [if_neg hcc] at hmn
    have HU2 := Lib.hid hmn
    clear hmn hcc
    go_enter Try.func53, Try.ntmps53
    go_upto_region 7 with (first
      | (refine wpList_load_row rfl 24 (.tmp 2) rfl (w.heap.size) rfl 24 _ (0, 0) _ P0.out Try.underlying24 rfl (S.i24 _ _ _ _) ?_)
      | (go_at_call 15; (with_reducible refine (valid_any s A n c b o xs (by omega) hc _ (HD.out.later hB0)).mono ?_); rintro e w1 ⟨rfl, hb1⟩; have P1 := Lib.hid (bkBelow P0.out hb1); have K1 := Lib.hid (bkBelow K0.out hb1); have R1 := Lib.hid (bkBelow R0.out hb1); have B1 := bdT hB0 hB0.size hb1; have p1 := (bkCell P1.out 1).trans (show _ = some (Value.slice A n c) from rfl); have p7 := (bkCell P1.out 7).trans (show _ = some (iv s.a7) from rfl); have p8 := (bkCell P1.out 8).trans (show _ = some (iv s.a8) from rfl); have p9 := (bkCell P1.out 9).trans (show _ = some (iv s.a9) from rfl); have k0 := (bkCell K1.out 0).trans (show _ = some (iv u) from rfl); rw [h8] at p8; rw [h9] at p9; simp only [hva])
      | (go_at_call 87; (with_reducible refine (in_yes _ _ _ _ hu1 HU2.out).mono ?_); rintro e w5 ⟨rfl, rfl⟩))
    clear wse p1 p7 p8 p9 k0
    have D5 := HD.out.later B1
    have M5 := Lib.hid (mapped_any s A n c b o xs h HBT.out HU.out.2.2.2.2.2.2 100 #[.pointer (some ⟨w.heap.size, 0, none⟩), .pointer (some ⟨w.heap.size + 1, 0, none⟩)] (enters_of Try.func100 (by kernel_rfl) rfl) (cG xs st en u) w1 D5 (fun W i hW hi => by
      obtain ⟨q1, q2, q3, q4, q5, q6, q7⟩ := HU.out
      have hxi := HX.out i hi
      by_cases hin : en ≤ i + u ∧ i < en
      · rw [show cG xs st en u i = cv (xs i) (xs (st - u + (i + u - en))) u (i + u - en) from if_pos hin]
        exact crossfn_in i n c (w.heap.size) (w.heap.size + 1) b o st en u (xs i) s A xs W H89.out.1 H89.out.2 q1 q5 q4 q6 q2 q3 (by omega) (i + u - en) (by omega) (by omega) hxi HX.out (bkBelow P1.out hW) (bkBelow K1.out hW) (D5.later hW)
      · rw [show cG xs st en u i = xs i from if_neg hin]
        exact crossfn_out i n c (w.heap.size) (w.heap.size + 1) b o st en u (xs i) s A xs W H89.out.1 H89.out.2 q1 q5 q4 q6 q2 q3 (by omega) (by omega) (bkBelow P1.out hW) (bkBelow K1.out hW) (D5.later hW)))
    clear D5
    have hR4 := bkLt R1.out
    have HR4 := Lib.hid hR4
    clear hR4
    go_wp2_with (first
      | (refine wpList_load_row rfl 24 (.tmp 2) rfl (w.heap.size) rfl 24 _ (0, 0) _ P1.out Try.underlying24 rfl (S.i24 _ _ _ _) ?_)
      | (go_at_call 96; (with_reducible refine M5.out.mono ?_); rintro e w6 ⟨g, rfl, D6, hg6, hb6⟩; have R6 := Lib.hid (bkBelow R1.out hb6); have B6 := bdT B1 B1.size hb6; have ND6 := Lib.hid D6)
      | (refine wpList_store_row rfl 24 (.tmp 4) (.tmp 28) rfl (w.heap.size + 1 + 1) (s.cs (some ⟨g, 0, none⟩) n n) rfl rfl 24 _ R6.out (S.i24 _ _ _ _) (S.sz S.zero s none _ 0 0 _ _) (S.one _ _ _ _) ?_))
    have hR4 := HR4.out
    refine bodyPost_ret (res_ct rfl _ _ (w.heap.size + 1 + 1) 24 _ (0, 0) _ rfl (setRow_heap _ _ _ _ _ _ R6.out) Try.underlying24 rfl (S.i24 _ _ _ _)) rfl ⟨_, _, g, 0, rfl, ND6.out.setRow (fun _ => by omega) _, below_setRow B6 (by omega) _⟩
end Go.Proofs.Ytnmoiolddfboiaa.TX

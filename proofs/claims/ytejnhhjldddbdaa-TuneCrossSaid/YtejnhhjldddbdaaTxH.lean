/- A sample that is centered, a sample that is normalized. -/
import Derived.Test.YtejnhhjldddbdaaTxG
namespace Go.Proofs.Ytejnhhjldddbdaa.TX
open Go.RowKit Go.Proofs.YtejnhhjldddbdaaW.PrintLast
set_option linter.unusedVariables false
set_option linter.unusedSimpArgs false
set_option maxHeartbeats 16000000 in
set_option maxRecDepth 100000 in
theorem norm_bad (s : S) (A : Option Addr) (n c b o : Nat) (xs : Nat → Int) (w : World) (hA : DataAt w A n b o xs) (hn : (n : Int) ≤ 1000000) (hc : n ≤ c) (hva : vS s n xs = false) :
    Calls Try.prog 36 #[.agg (s.cs A n c)] w fun e w' => e = .returned (.tuple #[.agg (S.zero.cs none 0 0), iv 1]) ∧ Below w.heap.size w w' := by
  have hB0 : Below w.heap.size w ((w.alloc (Obj.cells (s.cs A n c) 24)).alloc (Obj.cells #[Value.string ⟨#[]⟩, Value.slice none 0 0, iv 0, iv 0, iv 0, iv 0, iv 0, iv 0, iv 0, iv 0, iv 0, iv 0, iv 0] 24)) := ((Below.refl _ _).alloc (Nat.le_refl _) _).alloc (by simp) _
  have P0 := Lib.hid (heap_alloc2_old w (Obj.cells (s.cs A n c) 24) (Obj.cells #[Value.string ⟨#[]⟩, Value.slice none 0 0, iv 0, iv 0, iv 0, iv 0, iv 0, iv 0, iv 0, iv 0, iv 0, iv 0, iv 0] 24))
  have R0 := Lib.hid (heap_alloc2_new w (Obj.cells (s.cs A n c) 24) (Obj.cells #[Value.string ⟨#[]⟩, Value.slice none 0 0, iv 0, iv 0, iv 0, iv 0, iv 0, iv 0, iv 0, iv 0, iv 0, iv 0, iv 0] 24))
  have HD := Lib.hid hA
  have TD := Lib.hid hA.top
  clear hA
  have l0 : (0 : Int) ≤ (n : Int) := by omega
  go_enter Try.func36, Try.ntmps36
  go_wp2_with (first
    | (refine wpList_load_row rfl 24 (.tmp 1) rfl (w.heap.size) rfl 24 _ (0, 0) _ P0.out Try.underlying24 rfl (S.i24 _ _ _ _) ?_)
    | (go_at_call 44; (with_reducible refine (valid_any s A n c b o xs (by omega) hc _ (HD.out.later hB0)).mono ?_); rintro e w1 ⟨rfl, hb1⟩; have P1 := Lib.hid (bkBelow P0.out hb1); have R1 := Lib.hid (bkBelow R0.out hb1); have B1 := bdT hB0 hB0.size hb1; have p1 := (bkCell P1.out 1).trans (show _ = some (Value.slice A n c) from rfl); have p2 := (bkCell P1.out 2).trans (show _ = some (iv s.a2) from rfl); simp only [hva])
    | (refine wpBuild0 rfl 24 rfl (S.zero.cs none 0 0) built24 ?_)
    | (refine wpList_store_row rfl 24 (.tmp 2) (.tmp 12) rfl (w.heap.size + 1) (S.zero.cs none 0 0) rfl rfl 24 _ R1.out (S.i24 _ _ _ _) (S.sz S.zero S.zero none none 0 0 0 0) (S.one _ _ _ _) ?_))
  refine bodyPost_ret (res_ct rfl _ _ (w.heap.size + 1) 24 _ (0, 0) _ rfl (setRow_heap _ _ _ _ _ _ R1.out) Try.underlying24 rfl (S.i24 _ _ _ _)) rfl ⟨rfl, below_setRow B1 (by omega) _⟩
set_option maxHeartbeats 16000000 in
set_option maxRecDepth 100000 in
theorem rnorm_bad (s : S) (A : Option Addr) (n c b o : Nat) (xs : Nat → Int) (w : World) (hA : DataAt w A n b o xs) (hn : (n : Int) ≤ 1000000) (hc : n ≤ c) (hva : vS s n xs = false) :
    Calls Try.prog 37 #[.agg (s.cs A n c)] w fun e w' => e = .returned (.tuple #[.agg (S.zero.cs none 0 0), iv 1]) ∧ Below w.heap.size w w' := by
  have hB0 : Below w.heap.size w ((w.alloc (Obj.cells (s.cs A n c) 24)).alloc (Obj.cells #[Value.string ⟨#[]⟩, Value.slice none 0 0, iv 0, iv 0, iv 0, iv 0, iv 0, iv 0, iv 0, iv 0, iv 0, iv 0, iv 0] 24)) := ((Below.refl _ _).alloc (Nat.le_refl _) _).alloc (by simp) _
  have P0 := Lib.hid (heap_alloc2_old w (Obj.cells (s.cs A n c) 24) (Obj.cells #[Value.string ⟨#[]⟩, Value.slice none 0 0, iv 0, iv 0, iv 0, iv 0, iv 0, iv 0, iv 0, iv 0, iv 0, iv 0, iv 0] 24))
  have R0 := Lib.hid (heap_alloc2_new w (Obj.cells (s.cs A n c) 24) (Obj.cells #[Value.string ⟨#[]⟩, Value.slice none 0 0, iv 0, iv 0, iv 0, iv 0, iv 0, iv 0, iv 0, iv 0, iv 0, iv 0, iv 0] 24))
  have HD := Lib.hid hA
  have TD := Lib.hid hA.top
  clear hA
  have l0 : (0 : Int) ≤ (n : Int) := by omega
  go_enter Try.func37, Try.ntmps37
  go_wp2_with (first
    | (refine wpList_load_row rfl 24 (.tmp 1) rfl (w.heap.size) rfl 24 _ (0, 0) _ P0.out Try.underlying24 rfl (S.i24 _ _ _ _) ?_)
    | (go_at_call 26; (with_reducible refine (rvalid_any s A n c b o xs (by omega) hc _ (HD.out.later hB0)).mono ?_); rintro e w1 ⟨rfl, hb1⟩; have P1 := Lib.hid (bkBelow P0.out hb1); have R1 := Lib.hid (bkBelow R0.out hb1); have B1 := bdT hB0 hB0.size hb1; have p1 := (bkCell P1.out 1).trans (show _ = some (Value.slice A n c) from rfl); have p2 := (bkCell P1.out 2).trans (show _ = some (iv s.a2) from rfl); simp only [hva])
    | (refine wpBuild0 rfl 24 rfl (S.zero.cs none 0 0) built24 ?_)
    | (refine wpList_store_row rfl 24 (.tmp 2) (.tmp 13) rfl (w.heap.size + 1) (S.zero.cs none 0 0) rfl rfl 24 _ R1.out (S.i24 _ _ _ _) (S.sz S.zero S.zero none none 0 0 0 0) (S.one _ _ _ _) ?_))
  refine bodyPost_ret (res_ct rfl _ _ (w.heap.size + 1) 24 _ (0, 0) _ rfl (setRow_heap _ _ _ _ _ _ R1.out) Try.underlying24 rfl (S.i24 _ _ _ _)) rfl ⟨rfl, below_setRow B1 (by omega) _⟩
set_option maxHeartbeats 16000000 in
set_option maxRecDepth 100000 in
theorem cent_bad (s : S) (A : Option Addr) (n c b o : Nat) (xs : Nat → Int) (w : World) (hA : DataAt w A n b o xs) (hn : (n : Int) ≤ 1000000) (hc : n ≤ c) (hva : vS s n xs = false) :
    Calls Try.prog 38 #[.agg (s.cs A n c)] w fun e w' => e = .returned (.tuple #[.agg (S.zero.cs none 0 0), iv 1]) ∧ Below w.heap.size w w' := by
  have hB0 : Below w.heap.size w ((w.alloc (Obj.cells (s.cs A n c) 24)).alloc (Obj.cells #[Value.string ⟨#[]⟩, Value.slice none 0 0, iv 0, iv 0, iv 0, iv 0, iv 0, iv 0, iv 0, iv 0, iv 0, iv 0, iv 0] 24)) := ((Below.refl _ _).alloc (Nat.le_refl _) _).alloc (by simp) _
  have P0 := Lib.hid (heap_alloc2_old w (Obj.cells (s.cs A n c) 24) (Obj.cells #[Value.string ⟨#[]⟩, Value.slice none 0 0, iv 0, iv 0, iv 0, iv 0, iv 0, iv 0, iv 0, iv 0, iv 0, iv 0, iv 0] 24))
  have R0 := Lib.hid (heap_alloc2_new w (Obj.cells (s.cs A n c) 24) (Obj.cells #[Value.string ⟨#[]⟩, Value.slice none 0 0, iv 0, iv 0, iv 0, iv 0, iv 0, iv 0, iv 0, iv 0, iv 0, iv 0, iv 0] 24))
  have HD := Lib.hid hA
  have TD := Lib.hid hA.top
  clear hA
  have l0 : (0 : Int) ≤ (n : Int) := by omega
  go_enter Try.func38, Try.ntmps38
  go_wp2_with (first
    | (refine wpList_load_row rfl 24 (.tmp 1) rfl (w.heap.size) rfl 24 _ (0, 0) _ P0.out Try.underlying24 rfl (S.i24 _ _ _ _) ?_)
    | (go_at_call 44; (with_reducible refine (valid_any s A n c b o xs (by omega) hc _ (HD.out.later hB0)).mono ?_); rintro e w1 ⟨rfl, hb1⟩; have P1 := Lib.hid (bkBelow P0.out hb1); have R1 := Lib.hid (bkBelow R0.out hb1); have B1 := bdT hB0 hB0.size hb1; have p1 := (bkCell P1.out 1).trans (show _ = some (Value.slice A n c) from rfl); have p2 := (bkCell P1.out 2).trans (show _ = some (iv s.a2) from rfl); simp only [hva])
    | (refine wpBuild0 rfl 24 rfl (S.zero.cs none 0 0) built24 ?_)
    | (refine wpList_store_row rfl 24 (.tmp 2) (.tmp 10) rfl (w.heap.size + 1) (S.zero.cs none 0 0) rfl rfl 24 _ R1.out (S.i24 _ _ _ _) (S.sz S.zero S.zero none none 0 0 0 0) (S.one _ _ _ _) ?_))
  refine bodyPost_ret (res_ct rfl _ _ (w.heap.size + 1) 24 _ (0, 0) _ rfl (setRow_heap _ _ _ _ _ _ R1.out) Try.underlying24 rfl (S.i24 _ _ _ _)) rfl ⟨rfl, below_setRow B1 (by omega) _⟩
set_option maxHeartbeats 16000000 in
set_option maxRecDepth 100000 in
theorem rcent_bad (s : S) (A : Option Addr) (n c b o : Nat) (xs : Nat → Int) (w : World) (hA : DataAt w A n b o xs) (hn : (n : Int) ≤ 1000000) (hc : n ≤ c) (hva : vS s n xs = false) :
    Calls Try.prog 39 #[.agg (s.cs A n c)] w fun e w' => e = .returned (.tuple #[.agg (S.zero.cs none 0 0), iv 1]) ∧ Below w.heap.size w w' := by
  have hB0 : Below w.heap.size w ((w.alloc (Obj.cells (s.cs A n c) 24)).alloc (Obj.cells #[Value.string ⟨#[]⟩, Value.slice none 0 0, iv 0, iv 0, iv 0, iv 0, iv 0, iv 0, iv 0, iv 0, iv 0, iv 0, iv 0] 24)) := ((Below.refl _ _).alloc (Nat.le_refl _) _).alloc (by simp) _
  have P0 := Lib.hid (heap_alloc2_old w (Obj.cells (s.cs A n c) 24) (Obj.cells #[Value.string ⟨#[]⟩, Value.slice none 0 0, iv 0, iv 0, iv 0, iv 0, iv 0, iv 0, iv 0, iv 0, iv 0, iv 0, iv 0] 24))
  have R0 := Lib.hid (heap_alloc2_new w (Obj.cells (s.cs A n c) 24) (Obj.cells #[Value.string ⟨#[]⟩, Value.slice none 0 0, iv 0, iv 0, iv 0, iv 0, iv 0, iv 0, iv 0, iv 0, iv 0, iv 0, iv 0] 24))
  have HD := Lib.hid hA
  have TD := Lib.hid hA.top
  clear hA
  have l0 : (0 : Int) ≤ (n : Int) := by omega
  go_enter Try.func39, Try.ntmps39
  go_wp2_with (first
    | (refine wpList_load_row rfl 24 (.tmp 1) rfl (w.heap.size) rfl 24 _ (0, 0) _ P0.out Try.underlying24 rfl (S.i24 _ _ _ _) ?_)
    | (go_at_call 26; (with_reducible refine (rvalid_any s A n c b o xs (by omega) hc _ (HD.out.later hB0)).mono ?_); rintro e w1 ⟨rfl, hb1⟩; have P1 := Lib.hid (bkBelow P0.out hb1); have R1 := Lib.hid (bkBelow R0.out hb1); have B1 := bdT hB0 hB0.size hb1; have p1 := (bkCell P1.out 1).trans (show _ = some (Value.slice A n c) from rfl); have p2 := (bkCell P1.out 2).trans (show _ = some (iv s.a2) from rfl); simp only [hva])
    | (refine wpBuild0 rfl 24 rfl (S.zero.cs none 0 0) built24 ?_)
    | (refine wpList_store_row rfl 24 (.tmp 2) (.tmp 14) rfl (w.heap.size + 1) (S.zero.cs none 0 0) rfl rfl 24 _ R1.out (S.i24 _ _ _ _) (S.sz S.zero S.zero none none 0 0 0 0) (S.one _ _ _ _) ?_))
  refine bodyPost_ret (res_ct rfl _ _ (w.heap.size + 1) 24 _ (0, 0) _ rfl (setRow_heap _ _ _ _ _ _ R1.out) Try.underlying24 rfl (S.i24 _ _ _ _)) rfl ⟨rfl, below_setRow B1 (by omega) _⟩
def sm (xs : Nat → Int) : Nat → Int
  | 0 => 0
  | k + 1 => sm xs k + xs k
theorem sm_bd {xs : Nat → Int} {n : Nat} {h : Int} (hx : ∀ i, i < n → -h ≤ xs i ∧ xs i ≤ h - 1) (hh : 1 ≤ h ∧ h ≤ 32768) : ∀ k, k ≤ n → -(32768 * (k : Int)) ≤ sm xs k ∧ sm xs k ≤ 32768 * (k : Int)
  | 0, _ => by simp [sm]
  | k + 1, hk => by
    have ih := sm_bd hx hh k (by omega)
    have := hx k (by omega)
    unfold sm
    omega
theorem wrap_in {x : Int} (h0 : -1000000000000 ≤ x) (h1 : x ≤ 1000000000000) : wrap64 x = x := by unfold wrap64; omega
def ab (x : Int) : Int := if x < 0 then -x else x
/-- the loudest of the first frames -/
def mx (xs : Nat → Int) : Nat → Int
  | 0 => 0
  | k + 1 => if mx xs k < ab (xs k) then ab (xs k) else mx xs k
theorem mx_bd {xs : Nat → Int} {n : Nat} {h : Int} (hx : ∀ i, i < n → -h ≤ xs i ∧ xs i ≤ h - 1) (hh : 1 ≤ h ∧ h ≤ 32768) : ∀ k, k ≤ n → 0 ≤ mx xs k ∧ mx xs k ≤ 32768
  | 0, _ => by simp [mx]
  | k + 1, hk => by
    have ih := mx_bd hx hh k (by omega)
    have := hx k (by omega)
    unfold mx ab
    repeat' split
    all_goals omega
set_option maxHeartbeats 4000000 in
set_option maxRecDepth 100000 in
theorem dist_any (x : Int) (h0 : -1000000 ≤ x) (h1 : x ≤ 1000000) (w : World) : Calls Try.prog 55 #[iv x, iv 0] w fun e w' => e = .returned (iv (ab x)) ∧ Below w.heap.size w w' := by
  by_cases h : x < 0
  · rw [show ab x = -x from if_pos h]
    have m1 : (x < -x) = True := eq_true (by omega)
    go_enter Try.func55, Try.ntmps55
    go_wp2
    all_goals (try go_quiet (fail))
    all_goals (try go_wp2)
    all_goals (go_ret; exact ⟨by first | rfl | (congr 2; omega), by first | exact (Below.refl _ _) | exact bdN (Below.refl _ _) _⟩)
  · rw [show ab x = x from if_neg h]
    rcases (by omega : x = 0 ∨ 0 < x) with rfl | h2
    · go_enter Try.func55, Try.ntmps55
      go_wp2
      all_goals (try go_quiet (fail))
      all_goals (try go_wp2)
      all_goals (go_ret; exact ⟨by first | rfl | (congr 2; omega), by first | exact (Below.refl _ _) | exact bdN (Below.refl _ _) _⟩)
    · have m1 : (x < -x) = False := eq_false (by omega)
      go_enter Try.func55, Try.ntmps55
      go_wp2
      all_goals (try go_quiet (fail))
      all_goals (try go_wp2)
      all_goals (go_ret; exact ⟨by first | rfl | (congr 2; omega), by first | exact (Below.refl _ _) | exact bdN (Below.refl _ _) _⟩)
set_option maxHeartbeats 4000000 in
set_option maxRecDepth 100000 in
theorem abs_any (x : Int) (h0 : -1000000 ≤ x) (h1 : x ≤ 1000000) (w : World) : Calls Try.prog 56 #[iv x] w fun e w' => e = .returned (iv (ab x)) ∧ w = w' := by
  by_cases h : x < 0
  · rw [show ab x = -x from if_pos h]
    have m1 : (x < -x) = True := eq_true (by omega)
    go_enter Try.func56, Try.ntmps56
    go_wp2
    all_goals (go_ret; exact ⟨by first | rfl | (congr 2; omega), rfl⟩)
  · rw [show ab x = x from if_neg h]
    rcases (by omega : x = 0 ∨ 0 < x) with rfl | h2
    · go_enter Try.func56, Try.ntmps56
      go_wp2
      all_goals (go_ret; exact ⟨by first | rfl | (congr 2; omega), rfl⟩)
    · have m1 : (x < -x) = False := eq_false (by omega)
      go_enter Try.func56, Try.ntmps56
      go_wp2
      all_goals (go_ret; exact ⟨by first | rfl | (congr 2; omega), rfl⟩)
set_option maxHeartbeats 4000000 in
set_option maxRecDepth 100000 in
theorem centfn_any (i n c gk gs : Nat) (v q : Int) (s : S) (A : Option Addr) (W : World) (hn : 0 < n) (hn2 : (n : Int) ≤ 1000000) (hv0 : -1000000 ≤ v) (hv1 : v ≤ 1000000) (hq0 : -1000000000000 ≤ q) (hq1 : q ≤ 1000000000000)
    (hK : W.heap[gk]? = some (.cells #[iv q] 3 (0, 0))) (hS : W.heap[gs]? = some (.cells (s.cs A n c) 24 (0, 0))) :
    Calls Try.prog 68 #[iv i, iv v, .pointer (some ⟨gk, 0, none⟩), .pointer (some ⟨gs, 0, none⟩)] W fun e w' => e = .returned (iv (v - q / n)) ∧ Below W.heap.size W w' := by
  have k0 := (bkCell hK 0).trans (show _ = some (iv q) from rfl)
  have q1 := (bkCell hS 1).trans (show _ = some (Value.slice A n c) from rfl)
  have b0 : -1000000000000 ≤ q / (n : Int) := Int.le_ediv_of_mul_le (by omega) (by omega)
  have b1 : q / (n : Int) ≤ 1000000000000 := Int.ediv_le_of_le_mul (by omega) (by omega)
  have wn : wrap64 (v - q / n) = v - q / n := by unfold wrap64; omega
  clear hK hS
  go_enter Try.func68, Try.ntmps68
  go_wp2_with (go_at_call 52; (with_reducible refine (floor_any _ _ (by omega) (by omega) (by omega) (by omega) _).mono ?_); rintro e w3 ⟨rfl, rfl⟩)
  go_ret
  exact ⟨rfl, Below.refl _ _⟩
set_option maxHeartbeats 4000000 in
set_option maxRecDepth 100000 in
theorem normfn_any (i gk gh : Nat) (v q h : Int) (W : World) (hv0 : -1000000 ≤ v) (hv1 : v ≤ 1000000) (hq0 : 0 < q) (hq1 : q ≤ 1000000) (hh0 : 0 ≤ h) (hh1 : h ≤ 100000)
    (hH : W.heap[gh]? = some (.cells #[iv h] 3 (0, 0))) (hK : W.heap[gk]? = some (.cells #[iv q] 3 (0, 0))) :
    Calls Try.prog 67 #[iv i, iv v, .pointer (some ⟨gh, 0, none⟩), .pointer (some ⟨gk, 0, none⟩)] W fun e w' => e = .returned (iv (nr (v * h) q)) ∧ Below W.heap.size W w' := by
  have k0 := (bkCell hK 0).trans (show _ = some (iv q) from rfl)
  have k1 := (bkCell hH 0).trans (show _ = some (iv h) from rfl)
  have b0 : v * h ≤ 1000000 * 100000 := Int.le_trans (Int.mul_le_mul_of_nonneg_right hv1 hh0) (Int.mul_le_mul_of_nonneg_left hh1 (by omega))
  have b1 : -(1000000 * 100000) ≤ v * h := by
    have h1 : (-1000000) * h ≤ v * h := Int.mul_le_mul_of_nonneg_right hv0 hh0
    omega
  have wn : wrap64 (v * h) = v * h := by unfold wrap64; omega
  clear hK hH
  go_enter Try.func67, Try.ntmps67
  go_wp2_with (go_at_call 65; (with_reducible refine (nearest_any _ _ (by clear wn; omega) (by clear wn; omega) (by omega) (by omega) _).mono ?_); rintro e w3 ⟨rfl, rfl⟩)
  go_ret
  exact ⟨rfl, Below.refl _ _⟩
set_option maxHeartbeats 16000000 in
set_option maxRecDepth 100000 in
theorem cent_ok (s : S) (A : Option Addr) (n c b o : Nat) (xs : Nat → Int) (w : World) (hA : DataAt w A n b o xs) (hn : (n : Int) ≤ 1000000) (hc : n ≤ c) (h : Int) (hb : Bits s.a2 h) (hx : ∀ i, i < n → -h ≤ xs i ∧ xs i ≤ h - 1) (hva : vS s n xs = true) (hn4 : (n : Int) ≤ 4096) :
    Calls Try.prog 38 #[.agg (s.cs A n c)] w fun e w' => ∃ A' c' b o, e = .returned (.tuple #[.agg (s.cs A' n c'), iv 0]) ∧ DataAt w' A' n b o (fun i => clp h (xs i - sm xs n / n)) ∧ Below w.heap.size w w' := by
  have hB0 : Below w.heap.size w ((w.alloc (Obj.cells (s.cs A n c) 24)).alloc (Obj.cells #[Value.string ⟨#[]⟩, Value.slice none 0 0, iv 0, iv 0, iv 0, iv 0, iv 0, iv 0, iv 0, iv 0, iv 0, iv 0, iv 0] 24)) := ((Below.refl _ _).alloc (Nat.le_refl _) _).alloc (by simp) _
  have P0 := Lib.hid (heap_alloc2_old w (Obj.cells (s.cs A n c) 24) (Obj.cells #[Value.string ⟨#[]⟩, Value.slice none 0 0, iv 0, iv 0, iv 0, iv 0, iv 0, iv 0, iv 0, iv 0, iv 0, iv 0, iv 0] 24))
  have R0 := Lib.hid (heap_alloc2_new w (Obj.cells (s.cs A n c) 24) (Obj.cells #[Value.string ⟨#[]⟩, Value.slice none 0 0, iv 0, iv 0, iv 0, iv 0, iv 0, iv 0, iv 0, iv 0, iv 0, iv 0, iv 0] 24))
  have HD := Lib.hid hA
  have TD := Lib.hid hA.top
  clear hA
  have l0 : (0 : Int) ≤ (n : Int) := by omega
  have HX := Lib.hid hx
  have HBT := Lib.hid hb
  have HBD := bits_bd hb
  have HS := Lib.hid (sm_bd hx HBD)
  have HM := Lib.hid (mx_bd hx HBD)
  have HQ := Lib.hid (And.intro hn hn4)
  clear hx hb hn4
  go_enter Try.func38, Try.ntmps38
  go_upto_region 3 with (first
    | (refine wpList_load_row rfl 24 (.tmp 1) rfl (w.heap.size) rfl 24 _ (0, 0) _ P0.out Try.underlying24 rfl (S.i24 _ _ _ _) ?_)
    | (go_at_call 44; (with_reducible refine (valid_any s A n c b o xs (by omega) hc _ (HD.out.later hB0)).mono ?_); rintro e w1 ⟨rfl, hb1⟩; have P1 := Lib.hid (bkBelow P0.out hb1); have R1 := Lib.hid (bkBelow R0.out hb1); have B1 := bdT hB0 hB0.size hb1; have p1 := (bkCell P1.out 1).trans (show _ = some (Value.slice A n c) from rfl); have p2 := (bkCell P1.out 2).trans (show _ = some (iv s.a2) from rfl); simp only [hva]))
  go_upto_region 4 with (fail)
  have hP1 := bkLt P1.out
  have hR1 := bkLt R1.out
  have P2 := Lib.hid (bkAlloc P1.out (Obj.cells #[iv 0] 3))
  have R2 := Lib.hid (bkAlloc R1.out (Obj.cells #[iv 0] 3))
  have K2 := Lib.hid (heap_alloc_new w1 (Obj.cells #[iv 0] 3))
  have B2 := B1.alloc B1.size (Obj.cells #[iv 0] 3)
  clear p1 p2
  have p1 := (bkCell P2.out 1).trans (show _ = some (Value.slice A n c) from rfl)
  go_upto_region 5 with (fail)
  clear p1
  go_loopw [14] (fun v wr => ∃ k : Nat, k ≤ n ∧ v = iv k ∧ wr.heap[w1.heap.size]? = some (.cells #[iv (sm xs k)] 3 (0, 0)) ∧ wr.heap[w.heap.size]? = some (.cells (s.cs A n c) 24 (0, 0)) ∧ wr.heap[w.heap.size + 1]? = some (.cells #[Value.string ⟨#[]⟩, Value.slice none 0 0, iv 0, iv 0, iv 0, iv 0, iv 0, iv 0, iv 0, iv 0, iv 0, iv 0, iv 0] 24 (0, 0)) ∧ Below w.heap.size w wr) (fun v _ => n - (intOf v).toNat)
  case atStart => exact ⟨0, by omega, rfl, K2.out, P2.out, R2.out, B2⟩
  case round =>
    clear K2 P2 R2 B2
    obtain ⟨k, hk, rfl, hK, hP, hR, hB⟩ := hrel
    have NK := Lib.hid hK
    have NP := Lib.hid hP
    have NR := Lib.hid hR
    clear hK hP hR
    have l3 : (0 : Int) ≤ (k : Int) := by omega
    by_cases hlt : k < n
    · have l4 : (k : Int) < (n : Int) := by omega
      have tD := TD.out (by omega)
      subst tD
      have c0 := (HD.out.kept hB (HD.out.low (by omega))).cell k hlt
      have w3n := wrap_succ hlt hn
      have k0 := (bkCell NK.out 0).trans (show _ = some (iv (sm xs k)) from rfl)
      have f0 := bkFrozen NK.out 0
      have wn : wrap64 (sm xs k + xs k) = sm xs k + xs k := by
        have h1 := HX.out k hlt
        have h2 := HS.out k (by omega)
        have h3 := HQ.out
        clear w3n
        exact wrap_in (by omega) (by omega)
      go_wp2
      try simp only [w3n, wn]
      clear w3n wn
      exact ⟨⟨k + 1, by omega, by go_num, bkPut NK.out 0 (iv (sm xs k + xs k)) rfl, bkFar NP.out (by simp; omega) _, bkFar NR.out (by simp; omega) _, hB.setCell (by simp; omega) _⟩, by simp [intOf]; omega⟩
    · obtain rfl : n = k := by omega
      have D5 := HD.out.later hB
      have M5 := Lib.hid (mapped_any s A n c b o xs h HBT.out (by have := HQ.out; omega) 68 #[.pointer (some ⟨w1.heap.size, 0, none⟩), .pointer (some ⟨w.heap.size, 0, none⟩)] (enters_of Try.func68 (by kernel_rfl) rfl) (fun i => xs i - sm xs n / n) wr D5 (fun W i hW hi => by
        have hq := HQ.out
        have h1 := HX.out i hi
        have h2 := HS.out n (by omega)
        exact centfn_any i n c (w1.heap.size) (w.heap.size) (xs i) (sm xs n) s A W (by omega) (by omega) (by omega) (by omega) (by omega) (by omega) (bkBelow NK.out hW) (bkBelow NP.out hW)))
      clear D5
      go_wp2_with (first
        | (refine wpList_load_row rfl 24 (.tmp 1) rfl (w.heap.size) rfl 24 _ (0, 0) _ NP.out Try.underlying24 rfl (S.i24 _ _ _ _) ?_)
        | (go_at_call 46; (with_reducible refine M5.out.mono ?_); rintro e w6 ⟨g, rfl, D6, hg6, hb6⟩; have R6 := Lib.hid (bkBelow NR.out hb6); have B6 := bdT hB hB.size hb6; have ND6 := Lib.hid D6)
        | (refine wpList_store_row rfl 24 (.tmp 2) (.tmp 24) rfl (w.heap.size + 1) (s.cs (some ⟨g, 0, none⟩) n n) rfl rfl 24 _ R6.out (S.i24 _ _ _ _) (S.sz S.zero s none _ 0 0 _ _) (S.one _ _ _ _) ?_))
      have hR4 := bkLt NR.out
      refine bodyPost_ret (res_ct rfl _ _ (w.heap.size + 1) 24 _ (0, 0) _ rfl (setRow_heap _ _ _ _ _ _ R6.out) Try.underlying24 rfl (S.i24 _ _ _ _)) rfl ⟨_, _, g, 0, rfl, ND6.out.setRow (fun _ => by omega) _, below_setRow B6 (by omega) _⟩
theorem mean_bd {n : Nat} {q : Int} (hn : 0 < n) (h : -(32768 * (n : Int)) ≤ q ∧ q ≤ 32768 * (n : Int)) (h4 : (n : Int) ≤ 4096) : (-32768 ≤ q / (n : Int) ∧ q / (n : Int) ≤ 32768) ∧ -1000000000 ≤ q ∧ q ≤ 1000000000 :=
  ⟨⟨Int.le_ediv_of_mul_le (by omega) (by omega), Int.ediv_le_of_le_mul (by omega) (by omega)⟩, by omega, by omega⟩
set_option maxHeartbeats 16000000 in
set_option maxRecDepth 100000 in
theorem rcent_ok (s : S) (A : Option Addr) (n c b o : Nat) (xs : Nat → Int) (w : World) (hA : DataAt w A n b o xs) (hn : (n : Int) ≤ 1000000) (hc : n ≤ c) (h : Int) (hb : Bits s.a2 h) (hx : ∀ i, i < n → -h ≤ xs i ∧ xs i ≤ h - 1) (hva : vS s n xs = true) (hn4 : (n : Int) ≤ 4096) (hn0 : 0 < n) :
    Calls Try.prog 39 #[.agg (s.cs A n c)] w fun e w' => ∃ A' c' b o, e = .returned (.tuple #[.agg (s.cs A' n c'), iv 0]) ∧ DataAt w' A' n b o (fun i => clp h (xs i - sm xs n / n)) ∧ Below w.heap.size w w' := by
  have hB0 : Below w.heap.size w ((w.alloc (Obj.cells (s.cs A n c) 24)).alloc (Obj.cells #[Value.string ⟨#[]⟩, Value.slice none 0 0, iv 0, iv 0, iv 0, iv 0, iv 0, iv 0, iv 0, iv 0, iv 0, iv 0, iv 0] 24)) := ((Below.refl _ _).alloc (Nat.le_refl _) _).alloc (by simp) _
  have P0 := Lib.hid (heap_alloc2_old w (Obj.cells (s.cs A n c) 24) (Obj.cells #[Value.string ⟨#[]⟩, Value.slice none 0 0, iv 0, iv 0, iv 0, iv 0, iv 0, iv 0, iv 0, iv 0, iv 0, iv 0, iv 0] 24))
  have R0 := Lib.hid (heap_alloc2_new w (Obj.cells (s.cs A n c) 24) (Obj.cells #[Value.string ⟨#[]⟩, Value.slice none 0 0, iv 0, iv 0, iv 0, iv 0, iv 0, iv 0, iv 0, iv 0, iv 0, iv 0, iv 0] 24))
  have HD := Lib.hid hA
  have TD := Lib.hid hA.top
  clear hA
  have l0 : (0 : Int) ≤ (n : Int) := by omega
  have HX := Lib.hid hx
  have HBT := Lib.hid hb
  have HBD := bits_bd hb
  have HS := Lib.hid (sm_bd hx HBD)
  have HM := Lib.hid (mx_bd hx HBD)
  have HQ := Lib.hid (And.intro hn hn4)
  clear hx hb hn4
  obtain ⟨i0, hi, hz0, hz1, hz2⟩ := info_parts info3
  have e0 : ((n : Int) == 0) = false := by simp; omega
  go_enter Try.func39, Try.ntmps39
  go_upto_region 3 with (first
    | (refine wpList_load_row rfl 24 (.tmp 1) rfl (w.heap.size) rfl 24 _ (0, 0) _ P0.out Try.underlying24 rfl (S.i24 _ _ _ _) ?_)
    | (go_at_call 26; (with_reducible refine (rvalid_any s A n c b o xs (by omega) hc _ (HD.out.later hB0)).mono ?_); rintro e w1 ⟨rfl, hb1⟩; have P1 := Lib.hid (bkBelow P0.out hb1); have R1 := Lib.hid (bkBelow R0.out hb1); have B1 := bdT hB0 hB0.size hb1; have p1 := (bkCell P1.out 1).trans (show _ = some (Value.slice A n c) from rfl); have p2 := (bkCell P1.out 2).trans (show _ = some (iv s.a2) from rfl); simp only [hva]))
  go_upto_region 8 with (fail)
  clear p1 p2
  have HP1 := Lib.hid (bkLt P1.out)
  have HR1 := Lib.hid (bkLt R1.out)
  go_loopw [4, 27] (fun q v wr => ∃ k : Nat, k ≤ n ∧ q = iv (sm xs k) ∧ v = iv k ∧ w1 = wr) (fun _ v _ => n - (intOf v).toNat)
  case atStart => exact ⟨0, by omega, rfl, rfl, rfl⟩
  case round =>
    obtain ⟨k, hk, rfl, rfl, rfl⟩ := hrel
    have l3 : (0 : Int) ≤ (k : Int) := by omega
    by_cases hlt : k < n
    · have l4 : (k : Int) < (n : Int) := by omega
      have tD := TD.out (by omega)
      subst tD
      have c0 := (HD.out.kept B1 (HD.out.low (by omega))).cell k hlt
      have w3n := wrap_succ hlt hn
      have wn : wrap64 (sm xs k + xs k) = sm xs k + xs k := by
        have h1 := HX.out k hlt
        have h2 := HS.out k (by omega)
        have h3 := HQ.out
        clear w3n
        exact wrap_in (by omega) (by omega)
      go_wp2
      try simp only [w3n, wn]
      clear w3n wn
      refine ⟨⟨k + 1, by omega, by first | rfl | trivial, by go_num, by first | rfl | trivial⟩, ?_⟩
      simp [intOf]
      omega
    · obtain rfl : n = k := by omega
      have HMB := mean_bd hn0 (HS.out n (Nat.le_refl _)) HQ.out.2
      obtain ⟨q, hq⟩ : ∃ q, q = sm xs n / (n : Int) := ⟨_, rfl⟩
      have q0 : -32768 ≤ q ∧ q ≤ 32768 := hq ▸ HMB.1
      have CH := Lib.hid (fun W => hq ▸ floordiv_any (sm xs n) n (Int.le_trans (by decide) HMB.2.1) (Int.le_trans HMB.2.2 (by decide)) (Int.natCast_pos.2 hn0) (Int.le_trans HQ.out.1 (by decide)) W : ∀ W, Calls Try.prog 54 #[iv (sm xs n), iv n] W fun e w' => e = .returned (iv q) ∧ W = w')
      have HQ2 := Lib.hid hq
      clear hq HMB
      have p1 := (bkCell P1.out 1).trans (show _ = some (Value.slice A n c) from rfl)
      go_upto_region 13 with (go_at_call 54; (with_reducible refine (CH.out _).mono ?_); rintro e w5 ⟨rfl, rfl⟩)
      go_upto_region 14 with (at_make; refine wpList_make_full _ rfl _ _ 22 rfl w.heap.size 3 i0 (.int .i64 0) 1 Try.underlying22 hi hz0 hz1 .i64 .i64 _ _ n rfl rfl rfl rfl (by rw [hz2]; have := HQ.out; omega) (by unfold maxLen; have := HQ.out; omega) (by have := B1.size; omega) ?_; intro w3 hown hgrow; have P3 := Lib.hid (grBlk P1.out hgrow (by simp)); have R3 := Lib.hid (grBlk R1.out hgrow (by simp)); have B3 := B1.grown hgrow B1.size (by simp); have O3 := Lib.hid hown; have hg3 := ownFarA hown; have p1 := (bkCell P3.out 1).trans (show _ = some (Value.slice A n c) from rfl))
      go_upto_region 15 with (fail)
      clear p1
      go_loopw [47] (fun v wr => ∃ (k : Nat) (F : Nat → Int), k ≤ n ∧ v = iv k ∧ (∀ i, i < k → F i = xs i - q) ∧ wr.heap[w.heap.size]? = some (.cells (s.cs A n c) 24 (0, 0)) ∧ wr.heap[w.heap.size + 1]? = some (.cells #[Value.string ⟨#[]⟩, Value.slice none 0 0, iv 0, iv 0, iv 0, iv 0, iv 0, iv 0, iv 0, iv 0, iv 0, iv 0, iv 0] 24 (0, 0)) ∧ wr.ownsRow w.heap.size 3 1 (.slice (some ⟨w1.heap.size, 0, none⟩) n n) n (rw_ F n) ∧ Below w.heap.size w wr) (fun v _ => n - (intOf v).toNat)
      case atStart => exact ⟨0, fun _ => 0, by omega, rfl, fun i hi => by omega, P3.out, R3.out, ownN O3.out (by rw [rw_zero]; first | rfl | (rw [Nat.mul_one]; exact toList_madeCells_one _ _)), B3⟩
      case round =>
        clear P3 R3 O3 B3
        obtain ⟨k, F, hk, rfl, hF, hP, hR, hO, hB⟩ := hrel
        have NF := Lib.hid hF
        have NP := Lib.hid hP
        have NR := Lib.hid hR
        have NO := Lib.hid hO
        clear hF hP hR hO
        have l3 : (0 : Int) ≤ (k : Int) := by omega
        by_cases hlt : k < n
        · have l4 : (k : Int) < (n : Int) := by omega
          have tD := TD.out (by omega)
          subst tD
          have c0 := (HD.out.kept hB (HD.out.low (by omega))).cell k hlt
          have w3n := wrap_succ hlt hn
          have s4 : wr.cell? ⟨w1.heap.size, k, none⟩ = some (iv (F k)) := (NO.out.cellAt k (by omega)).trans (rw_at F n k hlt)
          have f4 := NO.out.frozenAt k
          have wn : wrap64 (xs k - q) = xs k - q := by
            have h1 := HX.out k hlt
            clear w3n
            exact wrap_in (by omega) (by omega)
          go_wp2
          try simp only [w3n, wn]
          clear w3n wn
          have hP1 := HP1.out
          have hR1 := HR1.out
          exact ⟨⟨k + 1, fun i => if i = k then xs k - q else F i, by omega, by go_num, upto_step (H := fun i => xs i - q) NF.out, bkFar NP.out (by simp; omega) _, bkFar NR.out (by simp; omega) _, ownN (NO.out.stored k _).1 (rw_set F n k _), hB.setCell (by simp; omega) _⟩, by simp [intOf]; omega⟩
        · obtain rfl : n = k := by omega
          have D5 := Lib.hid (ownData NO.out)
          have M5 := Lib.hid (made_any s A n c (some ⟨w1.heap.size, 0, none⟩) n n w1.heap.size 0 F h HBT.out (by have := HQ.out; omega) wr D5.out)
          go_wp2_with (first
            | (refine wpList_load_row rfl 24 (.tmp 1) rfl (w.heap.size) rfl 24 _ (0, 0) _ NP.out Try.underlying24 rfl (S.i24 _ _ _ _) ?_)
            | (go_at_call 49; (with_reducible refine M5.out.mono ?_); rintro e w6 ⟨g, rfl, D6, hg6, hb6⟩; have R6 := Lib.hid (bkBelow NR.out hb6); have B6 := bdT hB hB.size hb6; have ND6 := Lib.hid D6)
            | (refine wpList_store_row rfl 24 (.tmp 2) (.tmp 61) rfl (w.heap.size + 1) (s.cs (some ⟨g, 0, none⟩) n n) rfl rfl 24 _ R6.out (S.i24 _ _ _ _) (S.sz S.zero s none _ 0 0 _ _) (S.one _ _ _ _) ?_))
          have hR4 := bkLt NR.out
          refine bodyPost_ret (res_ct rfl _ _ (w.heap.size + 1) 24 _ (0, 0) _ rfl (setRow_heap _ _ _ _ _ _ R6.out) Try.underlying24 rfl (S.i24 _ _ _ _)) rfl ⟨_, _, g, 0, rfl, (ND6.out.setRow (fun _ => by omega) _).congr fun i hi => by rw [NF.out i hi, HQ2.out], below_setRow B6 (by omega) _⟩
set_option maxHeartbeats 16000000 in
set_option maxRecDepth 100000 in
theorem rcent_nil (s : S) (A : Option Addr) (n c b o : Nat) (xs : Nat → Int) (w : World) (hA : DataAt w A n b o xs) (hn : (n : Int) ≤ 1000000) (hc : n ≤ c) (h : Int) (hb : Bits s.a2 h) (hx : ∀ i, i < n → -h ≤ xs i ∧ xs i ≤ h - 1) (hva : vS s n xs = true) (hn0 : n = 0) (hn4 : (n : Int) ≤ 4096) :
    Calls Try.prog 39 #[.agg (s.cs A n c)] w fun e w' => ∃ A' c' b o, e = .returned (.tuple #[.agg (s.cs A' n c'), iv 0]) ∧ DataAt w' A' n b o (fun i => clp h (xs i - sm xs n / n)) ∧ Below w.heap.size w w' := by
  have hB0 : Below w.heap.size w ((w.alloc (Obj.cells (s.cs A n c) 24)).alloc (Obj.cells #[Value.string ⟨#[]⟩, Value.slice none 0 0, iv 0, iv 0, iv 0, iv 0, iv 0, iv 0, iv 0, iv 0, iv 0, iv 0, iv 0] 24)) := ((Below.refl _ _).alloc (Nat.le_refl _) _).alloc (by simp) _
  have P0 := Lib.hid (heap_alloc2_old w (Obj.cells (s.cs A n c) 24) (Obj.cells #[Value.string ⟨#[]⟩, Value.slice none 0 0, iv 0, iv 0, iv 0, iv 0, iv 0, iv 0, iv 0, iv 0, iv 0, iv 0, iv 0] 24))
  have R0 := Lib.hid (heap_alloc2_new w (Obj.cells (s.cs A n c) 24) (Obj.cells #[Value.string ⟨#[]⟩, Value.slice none 0 0, iv 0, iv 0, iv 0, iv 0, iv 0, iv 0, iv 0, iv 0, iv 0, iv 0, iv 0] 24))
  have HD := Lib.hid hA
  have TD := Lib.hid hA.top
  clear hA
  have l0 : (0 : Int) ≤ (n : Int) := by omega
  have HBT := Lib.hid hb
  subst hn0
  clear hb hx hn4
  have e0 : (((0 : Nat) : Int) == 0) = true := by simp
  go_enter Try.func39, Try.ntmps39
  go_upto_region 4 with (first
    | (refine wpList_load_row rfl 24 (.tmp 1) rfl (w.heap.size) rfl 24 _ (0, 0) _ P0.out Try.underlying24 rfl (S.i24 _ _ _ _) ?_)
    | (go_at_call 26; (with_reducible refine (rvalid_any s A 0 c b o xs (by omega) hc _ (HD.out.later hB0)).mono ?_); rintro e w1 ⟨rfl, hb1⟩; have P1 := Lib.hid (bkBelow P0.out hb1); have R1 := Lib.hid (bkBelow R0.out hb1); have B1 := bdT hB0 hB0.size hb1; have p1 := (bkCell P1.out 1).trans (show _ = some (Value.slice A 0 c) from rfl); have p2 := (bkCell P1.out 2).trans (show _ = some (iv s.a2) from rfl); simp only [hva]))
  have f1 := bkFrozen P1.out 1
  have CL := Lib.hid (clone_any A 0 c b o xs (by omega) w1 (HD.out.later B1))
  go_upto_region 5 with (go_at_call 51; (with_reducible refine CL.out.mono ?_); rintro e w5 ⟨v5, rfl, O5, hb5⟩; obtain ⟨A5, c5, g5, rfl, D5, -⟩ := ownDataV O5; have P5 := Lib.hid (bkBelow P1.out hb5); have R5 := Lib.hid (bkBelow R1.out hb5); have B5 := bdT B1 B1.size hb5; have p5 := (bkCell P5.out 1).trans (show _ = some (Value.slice A 0 c) from rfl); have f5 := bkFrozen P5.out 1)
  have P6 := Lib.hid (bkPut P5.out 1 (.slice A5 0 c5) (S.set1 s A A5 0 c 0 c5))
  have R6 := Lib.hid (bkFar R5.out (p := ⟨w.heap.size, 1, none⟩) (by simp) (.slice A5 0 c5))
  have B6 := B5.setCell (p := ⟨w.heap.size, 1, none⟩) (by simp) (.slice A5 0 c5)
  have hR4 := bkLt R1.out
  go_wp2_with (first
    | (refine wpList_load_row rfl 24 (.tmp 1) rfl (w.heap.size) rfl 24 _ (0, 0) _ P6.out Try.underlying24 rfl (S.i24 _ _ _ _) ?_)
    | (refine wpList_store_row rfl 24 (.tmp 2) (.tmp 23) rfl (w.heap.size + 1) (s.cs A5 0 c5) rfl rfl 24 _ R6.out (S.i24 _ _ _ _) (S.sz S.zero s none _ 0 0 _ _) (S.one _ _ _ _) ?_))
  refine bodyPost_ret (res_ct rfl _ _ (w.heap.size + 1) 24 _ (0, 0) _ rfl (setRow_heap _ _ _ _ _ _ R6.out) Try.underlying24 rfl (S.i24 _ _ _ _)) rfl ⟨A5, c5, g5, 0, rfl, ⟨fun h => by omega, fun h => by omega, fun i h => by omega⟩, below_setRow B6 (by omega) _⟩
set_option maxHeartbeats 16000000 in
set_option maxRecDepth 100000 in
theorem norm_none (s : S) (A : Option Addr) (n c b o : Nat) (xs : Nat → Int) (w : World) (hA : DataAt w A n b o xs) (hn : (n : Int) ≤ 1000000) (hc : n ≤ c) (h : Int) (hb : Bits s.a2 h) (hx : ∀ i, i < n → -h ≤ xs i ∧ xs i ≤ h - 1) (hva : vS s n xs = true) (hn4 : (n : Int) ≤ 4096) (hm : mx xs n = 0) :
    Calls Try.prog 36 #[.agg (s.cs A n c)] w fun e w' => e = .returned (.tuple #[.agg (S.zero.cs none 0 0), iv 7]) ∧ Below w.heap.size w w' := by
  have hB0 : Below w.heap.size w ((w.alloc (Obj.cells (s.cs A n c) 24)).alloc (Obj.cells #[Value.string ⟨#[]⟩, Value.slice none 0 0, iv 0, iv 0, iv 0, iv 0, iv 0, iv 0, iv 0, iv 0, iv 0, iv 0, iv 0] 24)) := ((Below.refl _ _).alloc (Nat.le_refl _) _).alloc (by simp) _
  have P0 := Lib.hid (heap_alloc2_old w (Obj.cells (s.cs A n c) 24) (Obj.cells #[Value.string ⟨#[]⟩, Value.slice none 0 0, iv 0, iv 0, iv 0, iv 0, iv 0, iv 0, iv 0, iv 0, iv 0, iv 0, iv 0] 24))
  have R0 := Lib.hid (heap_alloc2_new w (Obj.cells (s.cs A n c) 24) (Obj.cells #[Value.string ⟨#[]⟩, Value.slice none 0 0, iv 0, iv 0, iv 0, iv 0, iv 0, iv 0, iv 0, iv 0, iv 0, iv 0, iv 0] 24))
  have HD := Lib.hid hA
  have TD := Lib.hid hA.top
  clear hA
  have l0 : (0 : Int) ≤ (n : Int) := by omega
  have HX := Lib.hid hx
  have HBT := Lib.hid hb
  have HBD := bits_bd hb
  have HS := Lib.hid (sm_bd hx HBD)
  have HM := Lib.hid (mx_bd hx HBD)
  have HQ := Lib.hid (And.intro hn hn4)
  clear hx hb hn4
  have e0 : (mx xs n == 0) = true := by simp [hm]
  clear hm
  go_enter Try.func36, Try.ntmps36
  go_upto_region 3 with (first
    | (refine wpList_load_row rfl 24 (.tmp 1) rfl (w.heap.size) rfl 24 _ (0, 0) _ P0.out Try.underlying24 rfl (S.i24 _ _ _ _) ?_)
    | (go_at_call 44; (with_reducible refine (valid_any s A n c b o xs (by omega) hc _ (HD.out.later hB0)).mono ?_); rintro e w1 ⟨rfl, hb1⟩; have P1 := Lib.hid (bkBelow P0.out hb1); have R1 := Lib.hid (bkBelow R0.out hb1); have B1 := bdT hB0 hB0.size hb1; have p1 := (bkCell P1.out 1).trans (show _ = some (Value.slice A n c) from rfl); have p2 := (bkCell P1.out 2).trans (show _ = some (iv s.a2) from rfl); simp only [hva]))
  go_upto_region 4 with (fail)
  have hP1 := bkLt P1.out
  have hR1 := bkLt R1.out
  have P2 := Lib.hid (bkAlloc P1.out (Obj.cells #[iv 0] 3))
  have R2 := Lib.hid (bkAlloc R1.out (Obj.cells #[iv 0] 3))
  have K2 := Lib.hid (heap_alloc_new w1 (Obj.cells #[iv 0] 3))
  have B2 := B1.alloc B1.size (Obj.cells #[iv 0] 3)
  clear p1 p2
  have p1 := (bkCell P2.out 1).trans (show _ = some (Value.slice A n c) from rfl)
  go_upto_region 5 with (fail)
  clear p1
  go_loopw [16] (fun v wr => ∃ k : Nat, k ≤ n ∧ v = iv k ∧ wr.heap[w1.heap.size]? = some (.cells #[iv (mx xs k)] 3 (0, 0)) ∧ wr.heap[w.heap.size]? = some (.cells (s.cs A n c) 24 (0, 0)) ∧ wr.heap[w.heap.size + 1]? = some (.cells #[Value.string ⟨#[]⟩, Value.slice none 0 0, iv 0, iv 0, iv 0, iv 0, iv 0, iv 0, iv 0, iv 0, iv 0, iv 0, iv 0] 24 (0, 0)) ∧ Below w.heap.size w wr) (fun v _ => n - (intOf v).toNat)
  case atStart => exact ⟨0, by omega, rfl, K2.out, P2.out, R2.out, B2⟩
  case round =>
    clear K2 P2 R2 B2
    obtain ⟨k, hk, rfl, hK, hP, hR, hB⟩ := hrel
    have NK := Lib.hid hK
    have NP := Lib.hid hP
    have NR := Lib.hid hR
    clear hK hP hR
    have l3 : (0 : Int) ≤ (k : Int) := by omega
    by_cases hlt : k < n
    · have l4 : (k : Int) < (n : Int) := by omega
      have tD := TD.out (by omega)
      subst tD
      have c0 := (HD.out.kept hB (HD.out.low (by omega))).cell k hlt
      have w3n := wrap_succ hlt hn
      have X0 := Lib.hid (show -1000000 ≤ xs k ∧ xs k ≤ 1000000 by have := HX.out k hlt; omega)
      have f0 := bkFrozen NK.out 0
      by_cases hc : mx xs k < ab (xs k)
      · skip
        have hv : mx xs (k + 1) = ab (xs k) := if_pos hc
        have m1 : (mx xs k < ab (xs k)) = True := eq_true hc
        have HV := Lib.hid hv
        clear hv
        clear hc w3n
        go_upto_region 7 with (fail)
        refine start_ (n := 5) (S := fun w' => w'.heap[w1.heap.size]? = some (.cells #[iv (mx xs k)] 3 (0, 0)) ∧ w'.heap[w.heap.size]? = some (.cells (s.cs (some ⟨b, o, none⟩) n c) 24 (0, 0)) ∧ w'.heap[w.heap.size + 1]? = some (.cells #[Value.string ⟨#[]⟩, Value.slice none 0 0, iv 0, iv 0, iv 0, iv 0, iv 0, iv 0, iv 0, iv 0, iv 0, iv 0, iv 0] 24 (0, 0)) ∧ Below w.heap.size w w') (ds := [4]) #[false, false, false, false, false] (by kernel_rfl) rfl rfl ⟨NK.out, NP.out, NR.out, hB.drew⟩ (fun hHeld => ?_)
        refine pure_ (i := 1) (N := some 21) (v := ?_) (a' := ?_) #[false, true, false, false, false] rfl rfl (by kernel_rfl) (fun _ _ _ h => h) (Or.inl ⟨by rfl, ?_⟩) ?_ ?_
        rotate_left
        · intro w'
          go_simp
          with_reducible rfl
        rotate_left
        · simp only [Act.put, List.setIfInBounds_toArray, List.set_cons_zero, List.set_cons_succ, i64_w, i32_w]
          rfl
        refine take_ (i := 0) (N := some 20) (v := ?_) (a' := ?_) #[true, true, false, false, false] rfl rfl (by kernel_rfl) (fun _ _ _ h => h) (Or.inl ⟨by rfl, ?_⟩) hHeld ?_ ?_
        rotate_left
        · rintro w' ⟨s0, s1, s2, s3⟩
          have k0 := (bkCell s0 0).trans (show _ = some (iv (mx xs k)) from rfl)
          clear s0 s1 s2 s3
          go_simp
          with_reducible rfl
        rotate_left
        · simp only [Act.put, List.setIfInBounds_toArray, List.set_cons_zero, List.set_cons_succ, i64_w, i32_w]
          rfl
        refine one_ (i := 2) (N := some 22) #[true, true, true, false, false] rfl rfl (by kernel_rfl) (by decide) (fun K hK => ?_)
        obtain ⟨s0, s1, s2, s3⟩ := hHeld
        refine goes_ Try.func55 (by kernel_rfl) rfl #[iv (xs k), iv 0] (by rfl) rfl rfl (by simp only [List.map_toArray, List.map_cons, List.map_nil]; rfl) ?_
        with_reducible refine (dist_any (xs k) X0.out.1 X0.out.2 _).mono ?_
        rintro e w4 ⟨rfl, hb4⟩
        refine ⟨_, rfl, ?_⟩
        refine hK.out _ _ ⟨bkBelow s0 hb4, bkBelow s1 hb4, bkBelow s2 hb4, bdT s3 s3.size hb4⟩ (fun hHeld => ?_)
        clear hK K
        refine norm_ (a' := ?_) ?_ ?_
        rotate_left
        · show Act.put _ (some 22) _ = _
          simp only [Act.put, List.setIfInBounds_toArray, List.set_cons_zero, List.set_cons_succ, i64_w, i32_w]
          rfl
        refine pure_ (i := 3) (N := some 23) (v := ?_) (a' := ?_) #[true, true, true, true, false] rfl rfl (by kernel_rfl) (fun _ _ _ h => h) (Or.inl ⟨by rfl, ?_⟩) ?_ ?_
        rotate_left
        · intro w'
          go_simp
          with_reducible rfl
        rotate_left
        · simp only [Act.put, List.setIfInBounds_toArray, List.set_cons_zero, List.set_cons_succ, i64_w, i32_w]
          rfl
        refine last_ (i := 4) (N := none) #[true, true, true, true, true] rfl rfl (by kernel_rfl) (by decide) (fun K hK => ?_)
        obtain ⟨K9, P9, R9, B9⟩ := hHeld
        have k9 := (bkCell K9 0).trans (show _ = some (iv (mx xs k)) from rfl)
        have f9 := bkFrozen K9 0
        have N9 := Lib.hid (And.intro K9 (And.intro P9 (And.intro R9 B9)))
        clear K9 P9 R9 B9
        refine skip_ (w1 := ?_) (by rfl) rfl ?_ ?_
        rotate_left
        · go_simp
          rfl
        refine hK.out _ _ ?_
        clear hK K
        refine done_ (by kernel_rfl) ?_
        have w3n := wrap_succ hlt hn
        go_wp2
        try simp only [w3n]
        clear w3n
        exact ⟨⟨k + 1, by omega, by go_num, by rw [HV.out]; exact bkPut N9.out.1 0 _ rfl, bkFar N9.out.2.1 (by simp; omega) _, bkFar N9.out.2.2.1 (by simp; omega) _, N9.out.2.2.2.setCell (by simp; omega) _⟩, by simp [intOf]; omega⟩
      · skip
        have hv : mx xs (k + 1) = mx xs k := if_neg hc
        have m1 : (mx xs k < ab (xs k)) = False := eq_false hc
        have HV := Lib.hid hv
        clear hv
        clear hc w3n
        go_upto_region 7 with (fail)
        refine start_ (n := 5) (S := fun w' => w'.heap[w1.heap.size]? = some (.cells #[iv (mx xs k)] 3 (0, 0)) ∧ w'.heap[w.heap.size]? = some (.cells (s.cs (some ⟨b, o, none⟩) n c) 24 (0, 0)) ∧ w'.heap[w.heap.size + 1]? = some (.cells #[Value.string ⟨#[]⟩, Value.slice none 0 0, iv 0, iv 0, iv 0, iv 0, iv 0, iv 0, iv 0, iv 0, iv 0, iv 0, iv 0] 24 (0, 0)) ∧ Below w.heap.size w w') (ds := [4]) #[false, false, false, false, false] (by kernel_rfl) rfl rfl ⟨NK.out, NP.out, NR.out, hB.drew⟩ (fun hHeld => ?_)
        refine pure_ (i := 1) (N := some 21) (v := ?_) (a' := ?_) #[false, true, false, false, false] rfl rfl (by kernel_rfl) (fun _ _ _ h => h) (Or.inl ⟨by rfl, ?_⟩) ?_ ?_
        rotate_left
        · intro w'
          go_simp
          with_reducible rfl
        rotate_left
        · simp only [Act.put, List.setIfInBounds_toArray, List.set_cons_zero, List.set_cons_succ, i64_w, i32_w]
          rfl
        refine take_ (i := 0) (N := some 20) (v := ?_) (a' := ?_) #[true, true, false, false, false] rfl rfl (by kernel_rfl) (fun _ _ _ h => h) (Or.inl ⟨by rfl, ?_⟩) hHeld ?_ ?_
        rotate_left
        · rintro w' ⟨s0, s1, s2, s3⟩
          have k0 := (bkCell s0 0).trans (show _ = some (iv (mx xs k)) from rfl)
          clear s0 s1 s2 s3
          go_simp
          with_reducible rfl
        rotate_left
        · simp only [Act.put, List.setIfInBounds_toArray, List.set_cons_zero, List.set_cons_succ, i64_w, i32_w]
          rfl
        refine one_ (i := 2) (N := some 22) #[true, true, true, false, false] rfl rfl (by kernel_rfl) (by decide) (fun K hK => ?_)
        obtain ⟨s0, s1, s2, s3⟩ := hHeld
        refine goes_ Try.func55 (by kernel_rfl) rfl #[iv (xs k), iv 0] (by rfl) rfl rfl (by simp only [List.map_toArray, List.map_cons, List.map_nil]; rfl) ?_
        with_reducible refine (dist_any (xs k) X0.out.1 X0.out.2 _).mono ?_
        rintro e w4 ⟨rfl, hb4⟩
        refine ⟨_, rfl, ?_⟩
        refine hK.out _ _ ⟨bkBelow s0 hb4, bkBelow s1 hb4, bkBelow s2 hb4, bdT s3 s3.size hb4⟩ (fun hHeld => ?_)
        clear hK K
        refine norm_ (a' := ?_) ?_ ?_
        rotate_left
        · show Act.put _ (some 22) _ = _
          simp only [Act.put, List.setIfInBounds_toArray, List.set_cons_zero, List.set_cons_succ, i64_w, i32_w]
          rfl
        refine pure_ (i := 3) (N := some 23) (v := ?_) (a' := ?_) #[true, true, true, true, false] rfl rfl (by kernel_rfl) (fun _ _ _ h => h) (Or.inl ⟨by rfl, ?_⟩) ?_ ?_
        rotate_left
        · intro w'
          go_simp
          with_reducible rfl
        rotate_left
        · simp only [Act.put, List.setIfInBounds_toArray, List.set_cons_zero, List.set_cons_succ, i64_w, i32_w]
          rfl
        refine last_ (i := 4) (N := none) #[true, true, true, true, true] rfl rfl (by kernel_rfl) (by decide) (fun K hK => ?_)
        obtain ⟨K9, P9, R9, B9⟩ := hHeld
        have k9 := (bkCell K9 0).trans (show _ = some (iv (mx xs k)) from rfl)
        have f9 := bkFrozen K9 0
        have N9 := Lib.hid (And.intro K9 (And.intro P9 (And.intro R9 B9)))
        clear K9 P9 R9 B9
        refine skip_ (w1 := ?_) (by rfl) rfl ?_ ?_
        rotate_left
        · go_simp
          rfl
        refine hK.out _ _ ?_
        clear hK K
        refine done_ (by kernel_rfl) ?_
        have w3n := wrap_succ hlt hn
        go_wp2
        try simp only [w3n]
        clear w3n
        exact ⟨⟨k + 1, by omega, by go_num, by rw [HV.out]; exact bkPut N9.out.1 0 _ rfl, bkFar N9.out.2.1 (by simp; omega) _, bkFar N9.out.2.2.1 (by simp; omega) _, N9.out.2.2.2.setCell (by simp; omega) _⟩, by simp [intOf]; omega⟩
    · obtain rfl : n = k := by omega
      have k0 := (bkCell NK.out 0).trans (show _ = some (iv (mx xs n)) from rfl)
      have hR4 := bkLt NR.out
      go_wp2_with (first
        | (refine wpBuild0 rfl 24 rfl (S.zero.cs none 0 0) built24 ?_)
        | (refine wpList_store_row rfl 24 (.tmp 2) (.tmp 27) rfl (w.heap.size + 1) (S.zero.cs none 0 0) rfl rfl 24 _ NR.out (S.i24 _ _ _ _) (S.sz S.zero S.zero none none 0 0 0 0) (S.one _ _ _ _) ?_))
      refine bodyPost_ret (res_ct rfl _ _ (w.heap.size + 1) 24 _ (0, 0) _ rfl (setRow_heap _ _ _ _ _ _ NR.out) Try.underlying24 rfl (S.i24 _ _ _ _)) rfl ⟨rfl, below_setRow hB (by omega) _⟩
set_option maxHeartbeats 16000000 in
set_option maxRecDepth 100000 in
theorem norm_ok (s : S) (A : Option Addr) (n c b o : Nat) (xs : Nat → Int) (w : World) (hA : DataAt w A n b o xs) (hn : (n : Int) ≤ 1000000) (hc : n ≤ c) (h : Int) (hb : Bits s.a2 h) (hx : ∀ i, i < n → -h ≤ xs i ∧ xs i ≤ h - 1) (hva : vS s n xs = true) (hn4 : (n : Int) ≤ 4096) (hm : mx xs n ≠ 0) :
    Calls Try.prog 36 #[.agg (s.cs A n c)] w fun e w' => ∃ A' c' b o, e = .returned (.tuple #[.agg (s.cs A' n c'), iv 0]) ∧ DataAt w' A' n b o (fun i => clp h (nr (xs i * (h - 1)) (mx xs n))) ∧ Below w.heap.size w w' := by
  have hB0 : Below w.heap.size w ((w.alloc (Obj.cells (s.cs A n c) 24)).alloc (Obj.cells #[Value.string ⟨#[]⟩, Value.slice none 0 0, iv 0, iv 0, iv 0, iv 0, iv 0, iv 0, iv 0, iv 0, iv 0, iv 0, iv 0] 24)) := ((Below.refl _ _).alloc (Nat.le_refl _) _).alloc (by simp) _
  have P0 := Lib.hid (heap_alloc2_old w (Obj.cells (s.cs A n c) 24) (Obj.cells #[Value.string ⟨#[]⟩, Value.slice none 0 0, iv 0, iv 0, iv 0, iv 0, iv 0, iv 0, iv 0, iv 0, iv 0, iv 0, iv 0] 24))
  have R0 := Lib.hid (heap_alloc2_new w (Obj.cells (s.cs A n c) 24) (Obj.cells #[Value.string ⟨#[]⟩, Value.slice none 0 0, iv 0, iv 0, iv 0, iv 0, iv 0, iv 0, iv 0, iv 0, iv 0, iv 0, iv 0] 24))
  have HD := Lib.hid hA
  have TD := Lib.hid hA.top
  clear hA
  have l0 : (0 : Int) ≤ (n : Int) := by omega
  have HX := Lib.hid hx
  have HBT := Lib.hid hb
  have HBD := bits_bd hb
  have HS := Lib.hid (sm_bd hx HBD)
  have HM := Lib.hid (mx_bd hx HBD)
  have HQ := Lib.hid (And.intro hn hn4)
  clear hx hb hn4
  have e0 : (mx xs n == 0) = false := by simp [hm]
  have HMP := Lib.hid (show 0 < mx xs n by have := HM.out n (Nat.le_refl _); omega)
  clear hm
  go_enter Try.func36, Try.ntmps36
  go_upto_region 3 with (first
    | (refine wpList_load_row rfl 24 (.tmp 1) rfl (w.heap.size) rfl 24 _ (0, 0) _ P0.out Try.underlying24 rfl (S.i24 _ _ _ _) ?_)
    | (go_at_call 44; (with_reducible refine (valid_any s A n c b o xs (by omega) hc _ (HD.out.later hB0)).mono ?_); rintro e w1 ⟨rfl, hb1⟩; have P1 := Lib.hid (bkBelow P0.out hb1); have R1 := Lib.hid (bkBelow R0.out hb1); have B1 := bdT hB0 hB0.size hb1; have p1 := (bkCell P1.out 1).trans (show _ = some (Value.slice A n c) from rfl); have p2 := (bkCell P1.out 2).trans (show _ = some (iv s.a2) from rfl); simp only [hva]))
  go_upto_region 4 with (fail)
  have hP1 := bkLt P1.out
  have hR1 := bkLt R1.out
  have P2 := Lib.hid (bkAlloc P1.out (Obj.cells #[iv 0] 3))
  have R2 := Lib.hid (bkAlloc R1.out (Obj.cells #[iv 0] 3))
  have K2 := Lib.hid (heap_alloc_new w1 (Obj.cells #[iv 0] 3))
  have B2 := B1.alloc B1.size (Obj.cells #[iv 0] 3)
  clear p1 p2
  have p1 := (bkCell P2.out 1).trans (show _ = some (Value.slice A n c) from rfl)
  go_upto_region 5 with (fail)
  clear p1
  go_loopw [16] (fun v wr => ∃ k : Nat, k ≤ n ∧ v = iv k ∧ wr.heap[w1.heap.size]? = some (.cells #[iv (mx xs k)] 3 (0, 0)) ∧ wr.heap[w.heap.size]? = some (.cells (s.cs A n c) 24 (0, 0)) ∧ wr.heap[w.heap.size + 1]? = some (.cells #[Value.string ⟨#[]⟩, Value.slice none 0 0, iv 0, iv 0, iv 0, iv 0, iv 0, iv 0, iv 0, iv 0, iv 0, iv 0, iv 0] 24 (0, 0)) ∧ Below w.heap.size w wr) (fun v _ => n - (intOf v).toNat)
  case atStart => exact ⟨0, by omega, rfl, K2.out, P2.out, R2.out, B2⟩
  case round =>
    clear K2 P2 R2 B2
    obtain ⟨k, hk, rfl, hK, hP, hR, hB⟩ := hrel
    have NK := Lib.hid hK
    have NP := Lib.hid hP
    have NR := Lib.hid hR
    clear hK hP hR
    have l3 : (0 : Int) ≤ (k : Int) := by omega
    by_cases hlt : k < n
    · have l4 : (k : Int) < (n : Int) := by omega
      have tD := TD.out (by omega)
      subst tD
      have c0 := (HD.out.kept hB (HD.out.low (by omega))).cell k hlt
      have w3n := wrap_succ hlt hn
      have X0 := Lib.hid (show -1000000 ≤ xs k ∧ xs k ≤ 1000000 by have := HX.out k hlt; omega)
      have f0 := bkFrozen NK.out 0
      by_cases hc : mx xs k < ab (xs k)
      · skip
        have hv : mx xs (k + 1) = ab (xs k) := if_pos hc
        have m1 : (mx xs k < ab (xs k)) = True := eq_true hc
        have HV := Lib.hid hv
        clear hv
        clear hc w3n
        go_upto_region 7 with (fail)
        refine start_ (n := 5) (S := fun w' => w'.heap[w1.heap.size]? = some (.cells #[iv (mx xs k)] 3 (0, 0)) ∧ w'.heap[w.heap.size]? = some (.cells (s.cs (some ⟨b, o, none⟩) n c) 24 (0, 0)) ∧ w'.heap[w.heap.size + 1]? = some (.cells #[Value.string ⟨#[]⟩, Value.slice none 0 0, iv 0, iv 0, iv 0, iv 0, iv 0, iv 0, iv 0, iv 0, iv 0, iv 0, iv 0] 24 (0, 0)) ∧ Below w.heap.size w w') (ds := [4]) #[false, false, false, false, false] (by kernel_rfl) rfl rfl ⟨NK.out, NP.out, NR.out, hB.drew⟩ (fun hHeld => ?_)
        refine pure_ (i := 1) (N := some 21) (v := ?_) (a' := ?_) #[false, true, false, false, false] rfl rfl (by kernel_rfl) (fun _ _ _ h => h) (Or.inl ⟨by rfl, ?_⟩) ?_ ?_
        rotate_left
        · intro w'
          go_simp
          with_reducible rfl
        rotate_left
        · simp only [Act.put, List.setIfInBounds_toArray, List.set_cons_zero, List.set_cons_succ, i64_w, i32_w]
          rfl
        refine take_ (i := 0) (N := some 20) (v := ?_) (a' := ?_) #[true, true, false, false, false] rfl rfl (by kernel_rfl) (fun _ _ _ h => h) (Or.inl ⟨by rfl, ?_⟩) hHeld ?_ ?_
        rotate_left
        · rintro w' ⟨s0, s1, s2, s3⟩
          have k0 := (bkCell s0 0).trans (show _ = some (iv (mx xs k)) from rfl)
          clear s0 s1 s2 s3
          go_simp
          with_reducible rfl
        rotate_left
        · simp only [Act.put, List.setIfInBounds_toArray, List.set_cons_zero, List.set_cons_succ, i64_w, i32_w]
          rfl
        refine one_ (i := 2) (N := some 22) #[true, true, true, false, false] rfl rfl (by kernel_rfl) (by decide) (fun K hK => ?_)
        obtain ⟨s0, s1, s2, s3⟩ := hHeld
        refine goes_ Try.func55 (by kernel_rfl) rfl #[iv (xs k), iv 0] (by rfl) rfl rfl (by simp only [List.map_toArray, List.map_cons, List.map_nil]; rfl) ?_
        with_reducible refine (dist_any (xs k) X0.out.1 X0.out.2 _).mono ?_
        rintro e w4 ⟨rfl, hb4⟩
        refine ⟨_, rfl, ?_⟩
        refine hK.out _ _ ⟨bkBelow s0 hb4, bkBelow s1 hb4, bkBelow s2 hb4, bdT s3 s3.size hb4⟩ (fun hHeld => ?_)
        clear hK K
        refine norm_ (a' := ?_) ?_ ?_
        rotate_left
        · show Act.put _ (some 22) _ = _
          simp only [Act.put, List.setIfInBounds_toArray, List.set_cons_zero, List.set_cons_succ, i64_w, i32_w]
          rfl
        refine pure_ (i := 3) (N := some 23) (v := ?_) (a' := ?_) #[true, true, true, true, false] rfl rfl (by kernel_rfl) (fun _ _ _ h => h) (Or.inl ⟨by rfl, ?_⟩) ?_ ?_
        rotate_left
        · intro w'
          go_simp
          with_reducible rfl
        rotate_left
        · simp only [Act.put, List.setIfInBounds_toArray, List.set_cons_zero, List.set_cons_succ, i64_w, i32_w]
          rfl
        refine last_ (i := 4) (N := none) #[true, true, true, true, true] rfl rfl (by kernel_rfl) (by decide) (fun K hK => ?_)
        obtain ⟨K9, P9, R9, B9⟩ := hHeld
        have k9 := (bkCell K9 0).trans (show _ = some (iv (mx xs k)) from rfl)
        have f9 := bkFrozen K9 0
        have N9 := Lib.hid (And.intro K9 (And.intro P9 (And.intro R9 B9)))
        clear K9 P9 R9 B9
        refine skip_ (w1 := ?_) (by rfl) rfl ?_ ?_
        rotate_left
        · go_simp
          rfl
        refine hK.out _ _ ?_
        clear hK K
        refine done_ (by kernel_rfl) ?_
        have w3n := wrap_succ hlt hn
        go_wp2
        try simp only [w3n]
        clear w3n
        exact ⟨⟨k + 1, by omega, by go_num, by rw [HV.out]; exact bkPut N9.out.1 0 _ rfl, bkFar N9.out.2.1 (by simp; omega) _, bkFar N9.out.2.2.1 (by simp; omega) _, N9.out.2.2.2.setCell (by simp; omega) _⟩, by simp [intOf]; omega⟩
      · skip
        have hv : mx xs (k + 1) = mx xs k := if_neg hc
        have m1 : (mx xs k < ab (xs k)) = False := eq_false hc
        have HV := Lib.hid hv
        clear hv
        clear hc w3n
        go_upto_region 7 with (fail)
        refine start_ (n := 5) (S := fun w' => w'.heap[w1.heap.size]? = some (.cells #[iv (mx xs k)] 3 (0, 0)) ∧ w'.heap[w.heap.size]? = some (.cells (s.cs (some ⟨b, o, none⟩) n c) 24 (0, 0)) ∧ w'.heap[w.heap.size + 1]? = some (.cells #[Value.string ⟨#[]⟩, Value.slice none 0 0, iv 0, iv 0, iv 0, iv 0, iv 0, iv 0, iv 0, iv 0, iv 0, iv 0, iv 0] 24 (0, 0)) ∧ Below w.heap.size w w') (ds := [4]) #[false, false, false, false, false] (by kernel_rfl) rfl rfl ⟨NK.out, NP.out, NR.out, hB.drew⟩ (fun hHeld => ?_)
        refine pure_ (i := 1) (N := some 21) (v := ?_) (a' := ?_) #[false, true, false, false, false] rfl rfl (by kernel_rfl) (fun _ _ _ h => h) (Or.inl ⟨by rfl, ?_⟩) ?_ ?_
        rotate_left
        · intro w'
          go_simp
          with_reducible rfl
        rotate_left
        · simp only [Act.put, List.setIfInBounds_toArray, List.set_cons_zero, List.set_cons_succ, i64_w, i32_w]
          rfl
        refine take_ (i := 0) (N := some 20) (v := ?_) (a' := ?_) #[true, true, false, false, false] rfl rfl (by kernel_rfl) (fun _ _ _ h => h) (Or.inl ⟨by rfl, ?_⟩) hHeld ?_ ?_
        rotate_left
        · rintro w' ⟨s0, s1, s2, s3⟩
          have k0 := (bkCell s0 0).trans (show _ = some (iv (mx xs k)) from rfl)
          clear s0 s1 s2 s3
          go_simp
          with_reducible rfl
        rotate_left
        · simp only [Act.put, List.setIfInBounds_toArray, List.set_cons_zero, List.set_cons_succ, i64_w, i32_w]
          rfl
        refine one_ (i := 2) (N := some 22) #[true, true, true, false, false] rfl rfl (by kernel_rfl) (by decide) (fun K hK => ?_)
        obtain ⟨s0, s1, s2, s3⟩ := hHeld
        refine goes_ Try.func55 (by kernel_rfl) rfl #[iv (xs k), iv 0] (by rfl) rfl rfl (by simp only [List.map_toArray, List.map_cons, List.map_nil]; rfl) ?_
        with_reducible refine (dist_any (xs k) X0.out.1 X0.out.2 _).mono ?_
        rintro e w4 ⟨rfl, hb4⟩
        refine ⟨_, rfl, ?_⟩
        refine hK.out _ _ ⟨bkBelow s0 hb4, bkBelow s1 hb4, bkBelow s2 hb4, bdT s3 s3.size hb4⟩ (fun hHeld => ?_)
        clear hK K
        refine norm_ (a' := ?_) ?_ ?_
        rotate_left
        · show Act.put _ (some 22) _ = _
          simp only [Act.put, List.setIfInBounds_toArray, List.set_cons_zero, List.set_cons_succ, i64_w, i32_w]
          rfl
        refine pure_ (i := 3) (N := some 23) (v := ?_) (a' := ?_) #[true, true, true, true, false] rfl rfl (by kernel_rfl) (fun _ _ _ h => h) (Or.inl ⟨by rfl, ?_⟩) ?_ ?_
        rotate_left
        · intro w'
          go_simp
          with_reducible rfl
        rotate_left
        · simp only [Act.put, List.setIfInBounds_toArray, List.set_cons_zero, List.set_cons_succ, i64_w, i32_w]
          rfl
        refine last_ (i := 4) (N := none) #[true, true, true, true, true] rfl rfl (by kernel_rfl) (by decide) (fun K hK => ?_)
        obtain ⟨K9, P9, R9, B9⟩ := hHeld
        have k9 := (bkCell K9 0).trans (show _ = some (iv (mx xs k)) from rfl)
        have f9 := bkFrozen K9 0
        have N9 := Lib.hid (And.intro K9 (And.intro P9 (And.intro R9 B9)))
        clear K9 P9 R9 B9
        refine skip_ (w1 := ?_) (by rfl) rfl ?_ ?_
        rotate_left
        · go_simp
          rfl
        refine hK.out _ _ ?_
        clear hK K
        refine done_ (by kernel_rfl) ?_
        have w3n := wrap_succ hlt hn
        go_wp2
        try simp only [w3n]
        clear w3n
        exact ⟨⟨k + 1, by omega, by go_num, by rw [HV.out]; exact bkPut N9.out.1 0 _ rfl, bkFar N9.out.2.1 (by simp; omega) _, bkFar N9.out.2.2.1 (by simp; omega) _, N9.out.2.2.2.setCell (by simp; omega) _⟩, by simp [intOf]; omega⟩
    · obtain rfl : n = k := by omega
      have k0 := (bkCell NK.out 0).trans (show _ = some (iv (mx xs n)) from rfl)
      have p2 := (bkCell NP.out 2).trans (show _ = some (iv s.a2) from rfl)
      have hK4 := bkLt NK.out
      have hR4 := bkLt NR.out
      have hP4 := bkLt NP.out
      go_upto_region 12 with (go_at_call 50; (with_reducible refine (limit_any _ _ HBT.out _).mono ?_); rintro e w0 ⟨rfl, m0, rfl⟩; have f7 : ((wr.drewN m0).alloc (Obj.cells #[iv 0] 3)).frozen? ⟨wr.heap.size, 0, none⟩ = false := bkFrozen (heap_alloc_new (wr.drewN m0) (Obj.cells #[iv 0] 3)) 0; have c7 : ((wr.drewN m0).alloc (Obj.cells #[iv 0] 3)).cell? ⟨wr.heap.size, 0, none⟩ = some (iv 0) := (bkCell (heap_alloc_new (wr.drewN m0) (Obj.cells #[iv 0] 3)) 0).trans rfl)
      have BB := bdN hB m0
      have P7 := Lib.hid (bkFar (bkAlloc (w := wr.drewN m0) (by exact NP.out) (Obj.cells #[iv 0] 3)) (p := ⟨wr.heap.size, 0, none⟩) (by simp; omega) (iv (h - 1)))
      have R7 := Lib.hid (bkFar (bkAlloc (w := wr.drewN m0) (by exact NR.out) (Obj.cells #[iv 0] 3)) (p := ⟨wr.heap.size, 0, none⟩) (by simp; omega) (iv (h - 1)))
      have K7 := Lib.hid (bkFar (bkAlloc (w := wr.drewN m0) (by exact NK.out) (Obj.cells #[iv 0] 3)) (p := ⟨wr.heap.size, 0, none⟩) (by simp; omega) (iv (h - 1)))
      have H7 := Lib.hid (show (((wr.drewN m0).alloc (Obj.cells #[iv 0] 3)).setCell ⟨wr.heap.size, 0, none⟩ (iv (h - 1))).heap[wr.heap.size]? = some (.cells #[iv (h - 1)] 3 (0, 0)) from bkPut (heap_alloc_new (wr.drewN m0) (Obj.cells #[iv 0] 3)) 0 (iv (h - 1)) rfl)
      have B7 := (BB.alloc BB.size (Obj.cells #[iv 0] 3)).setCell (p := ⟨wr.heap.size, 0, none⟩) BB.size (iv (h - 1))
      clear f7 c7
      have D5 := HD.out.later B7
      have M5 := Lib.hid (mapped_any s A n c b o xs h HBT.out (by have := HQ.out; omega) 67 #[.pointer (some ⟨wr.heap.size, 0, none⟩), .pointer (some ⟨w1.heap.size, 0, none⟩)] (enters_of Try.func67 (by kernel_rfl) rfl) (fun i => nr (xs i * (h - 1)) (mx xs n)) _ D5 (fun W i hW hi => by
        have h1 := HX.out i hi
        have h2 := HM.out n (by omega)
        exact normfn_any i (w1.heap.size) (wr.heap.size) (xs i) (mx xs n) (h - 1) W (by omega) (by omega) (by have := HMP.out; omega) (by omega) (by omega) (by omega) (bkBelow H7.out hW) (bkBelow K7.out hW)))
      clear D5 k0 p2
      go_wp2_with (first
        | (refine wpList_load_row rfl 24 (.tmp 1) rfl (w.heap.size) rfl 24 _ (0, 0) _ P7.out Try.underlying24 rfl (S.i24 _ _ _ _) ?_)
        | (go_at_call 46; (with_reducible refine M5.out.mono ?_); rintro e w6 ⟨g, rfl, D6, hg6, hb6⟩; have R8 := Lib.hid (bkBelow R7.out hb6); have B8 := bdT B7 B7.size hb6; have ND6 := Lib.hid D6)
        | (refine wpList_store_row rfl 24 (.tmp 2) (.tmp 36) rfl (w.heap.size + 1) (s.cs (some ⟨g, 0, none⟩) n n) rfl rfl 24 _ R8.out (S.i24 _ _ _ _) (S.sz S.zero s none _ 0 0 _ _) (S.one _ _ _ _) ?_))
      refine bodyPost_ret (res_ct rfl _ _ (w.heap.size + 1) 24 _ (0, 0) _ rfl (setRow_heap _ _ _ _ _ _ R8.out) Try.underlying24 rfl (S.i24 _ _ _ _)) rfl ⟨_, _, g, 0, rfl, ND6.out.setRow (fun _ => by simp at hg6; omega) _, below_setRow B8 (by omega) _⟩
set_option maxHeartbeats 16000000 in
set_option maxRecDepth 100000 in
theorem rnorm_none (s : S) (A : Option Addr) (n c b o : Nat) (xs : Nat → Int) (w : World) (hA : DataAt w A n b o xs) (hn : (n : Int) ≤ 1000000) (hc : n ≤ c) (h : Int) (hb : Bits s.a2 h) (hx : ∀ i, i < n → -h ≤ xs i ∧ xs i ≤ h - 1) (hva : vS s n xs = true) (hn4 : (n : Int) ≤ 4096) (hm : mx xs n = 0) :
    Calls Try.prog 37 #[.agg (s.cs A n c)] w fun e w' => e = .returned (.tuple #[.agg (S.zero.cs none 0 0), iv 7]) ∧ Below w.heap.size w w' := by
  have hB0 : Below w.heap.size w ((w.alloc (Obj.cells (s.cs A n c) 24)).alloc (Obj.cells #[Value.string ⟨#[]⟩, Value.slice none 0 0, iv 0, iv 0, iv 0, iv 0, iv 0, iv 0, iv 0, iv 0, iv 0, iv 0, iv 0] 24)) := ((Below.refl _ _).alloc (Nat.le_refl _) _).alloc (by simp) _
  have P0 := Lib.hid (heap_alloc2_old w (Obj.cells (s.cs A n c) 24) (Obj.cells #[Value.string ⟨#[]⟩, Value.slice none 0 0, iv 0, iv 0, iv 0, iv 0, iv 0, iv 0, iv 0, iv 0, iv 0, iv 0, iv 0] 24))
  have R0 := Lib.hid (heap_alloc2_new w (Obj.cells (s.cs A n c) 24) (Obj.cells #[Value.string ⟨#[]⟩, Value.slice none 0 0, iv 0, iv 0, iv 0, iv 0, iv 0, iv 0, iv 0, iv 0, iv 0, iv 0, iv 0] 24))
  have HD := Lib.hid hA
  have TD := Lib.hid hA.top
  clear hA
  have l0 : (0 : Int) ≤ (n : Int) := by omega
  have HX := Lib.hid hx
  have HBT := Lib.hid hb
  have HBD := bits_bd hb
  have HS := Lib.hid (sm_bd hx HBD)
  have HM := Lib.hid (mx_bd hx HBD)
  have HQ := Lib.hid (And.intro hn hn4)
  clear hx hb hn4
  have e0 : (mx xs n == 0) = true := by simp [hm]
  clear hm
  go_enter Try.func37, Try.ntmps37
  go_upto_region 3 with (first
    | (refine wpList_load_row rfl 24 (.tmp 1) rfl (w.heap.size) rfl 24 _ (0, 0) _ P0.out Try.underlying24 rfl (S.i24 _ _ _ _) ?_)
    | (go_at_call 26; (with_reducible refine (rvalid_any s A n c b o xs (by omega) hc _ (HD.out.later hB0)).mono ?_); rintro e w1 ⟨rfl, hb1⟩; have P1 := Lib.hid (bkBelow P0.out hb1); have R1 := Lib.hid (bkBelow R0.out hb1); have B1 := bdT hB0 hB0.size hb1; have p1 := (bkCell P1.out 1).trans (show _ = some (Value.slice A n c) from rfl); have p2 := (bkCell P1.out 2).trans (show _ = some (iv s.a2) from rfl); simp only [hva]))
  go_upto_region 5 with (fail)
  clear p1 p2
  have HP1 := Lib.hid (bkLt P1.out)
  have HR1 := Lib.hid (bkLt R1.out)
  go_loopw [4, 17] (fun q v wr => ∃ k : Nat, k ≤ n ∧ q = iv (mx xs k) ∧ v = iv k ∧ w1 = wr) (fun _ v _ => n - (intOf v).toNat)
  case atStart => exact ⟨0, by omega, rfl, rfl, rfl⟩
  case round =>
    obtain ⟨k, hk, rfl, rfl, rfl⟩ := hrel
    have l3 : (0 : Int) ≤ (k : Int) := by omega
    by_cases hlt : k < n
    · have l4 : (k : Int) < (n : Int) := by omega
      have tD := TD.out (by omega)
      subst tD
      have c0 := (HD.out.kept B1 (HD.out.low (by omega))).cell k hlt
      have X0 := Lib.hid (show -1000000 ≤ xs k ∧ xs k ≤ 1000000 by have := HX.out k hlt; omega)
      by_cases hc : mx xs k < ab (xs k)
      · skip
        have hv : mx xs (k + 1) = ab (xs k) := if_pos hc
        have m1 : (mx xs k < ab (xs k)) = True := eq_true hc
        have HV := Lib.hid hv
        clear hv
        clear hc
        have w3n := wrap_succ hlt hn
        go_wp2_with (go_at_call 56; (with_reducible refine (abs_any (xs k) X0.out.1 X0.out.2 _).mono ?_); rintro e w4 ⟨rfl, rfl⟩)
        try simp only [w3n]
        clear w3n
        refine ⟨⟨k + 1, by omega, by rw [HV.out], by go_num, by first | rfl | trivial⟩, ?_⟩
        simp [intOf]
        omega
      · skip
        have hv : mx xs (k + 1) = mx xs k := if_neg hc
        have m1 : (mx xs k < ab (xs k)) = False := eq_false hc
        have HV := Lib.hid hv
        clear hv
        clear hc
        have w3n := wrap_succ hlt hn
        go_wp2_with (go_at_call 56; (with_reducible refine (abs_any (xs k) X0.out.1 X0.out.2 _).mono ?_); rintro e w4 ⟨rfl, rfl⟩)
        try simp only [w3n]
        clear w3n
        refine ⟨⟨k + 1, by omega, by rw [HV.out], by go_num, by first | rfl | trivial⟩, ?_⟩
        simp [intOf]
        omega
    · obtain rfl : n = k := by omega
      have hR1 := HR1.out
      go_wp2_with (first
        | (refine wpBuild0 rfl 24 rfl (S.zero.cs none 0 0) built24 ?_)
        | (refine wpList_store_row rfl 24 (.tmp 2) (.tmp 28) rfl (w.heap.size + 1) (S.zero.cs none 0 0) rfl rfl 24 _ R1.out (S.i24 _ _ _ _) (S.sz S.zero S.zero none none 0 0 0 0) (S.one _ _ _ _) ?_))
      refine bodyPost_ret (res_ct rfl _ _ (w.heap.size + 1) 24 _ (0, 0) _ rfl (setRow_heap _ _ _ _ _ _ R1.out) Try.underlying24 rfl (S.i24 _ _ _ _)) rfl ⟨rfl, below_setRow B1 (by omega) _⟩
set_option maxHeartbeats 16000000 in
set_option maxRecDepth 100000 in
theorem rnorm_ok8 (s : S) (A : Option Addr) (n c b o : Nat) (xs : Nat → Int) (w : World) (hA : DataAt w A n b o xs) (hn : (n : Int) ≤ 1000000) (hc : n ≤ c) (hb : Bits s.a2 128) (hx : ∀ i, i < n → -128 ≤ xs i ∧ xs i ≤ 128 - 1) (hva : vS s n xs = true) (hn4 : (n : Int) ≤ 4096) (hb8 : s.a2 = 8) (hm : mx xs n ≠ 0) :
    Calls Try.prog 37 #[.agg (s.cs A n c)] w fun e w' => ∃ A' c' b o, e = .returned (.tuple #[.agg (s.cs A' n c'), iv 0]) ∧ DataAt w' A' n b o (fun i => clp 128 (nr (xs i * 127) (mx xs n))) ∧ Below w.heap.size w w' := by
  have hB0 : Below w.heap.size w ((w.alloc (Obj.cells (s.cs A n c) 24)).alloc (Obj.cells #[Value.string ⟨#[]⟩, Value.slice none 0 0, iv 0, iv 0, iv 0, iv 0, iv 0, iv 0, iv 0, iv 0, iv 0, iv 0, iv 0] 24)) := ((Below.refl _ _).alloc (Nat.le_refl _) _).alloc (by simp) _
  have P0 := Lib.hid (heap_alloc2_old w (Obj.cells (s.cs A n c) 24) (Obj.cells #[Value.string ⟨#[]⟩, Value.slice none 0 0, iv 0, iv 0, iv 0, iv 0, iv 0, iv 0, iv 0, iv 0, iv 0, iv 0, iv 0] 24))
  have R0 := Lib.hid (heap_alloc2_new w (Obj.cells (s.cs A n c) 24) (Obj.cells #[Value.string ⟨#[]⟩, Value.slice none 0 0, iv 0, iv 0, iv 0, iv 0, iv 0, iv 0, iv 0, iv 0, iv 0, iv 0, iv 0] 24))
  have HD := Lib.hid hA
  have TD := Lib.hid hA.top
  clear hA
  have l0 : (0 : Int) ≤ (n : Int) := by omega
  have HX := Lib.hid hx
  have HBT := Lib.hid hb
  have HBD := bits_bd hb
  have HS := Lib.hid (sm_bd hx HBD)
  have HM := Lib.hid (mx_bd hx HBD)
  have HQ := Lib.hid (And.intro hn hn4)
  clear hx hb hn4
  obtain ⟨i0, hi, hz0, hz1, hz2⟩ := info_parts info3
  have HB8 := Lib.hid hb8
  have e0 : (mx xs n == 0) = false := by simp [hm]
  have HMP := Lib.hid (show 0 < mx xs n ∧ mx xs n ≤ 1000000000000000 by have := HM.out n (Nat.le_refl _); omega)
  clear hm hb8
  go_enter Try.func37, Try.ntmps37
  go_upto_region 3 with (first
    | (refine wpList_load_row rfl 24 (.tmp 1) rfl (w.heap.size) rfl 24 _ (0, 0) _ P0.out Try.underlying24 rfl (S.i24 _ _ _ _) ?_)
    | (go_at_call 26; (with_reducible refine (rvalid_any s A n c b o xs (by omega) hc _ (HD.out.later hB0)).mono ?_); rintro e w1 ⟨rfl, hb1⟩; have P1 := Lib.hid (bkBelow P0.out hb1); have R1 := Lib.hid (bkBelow R0.out hb1); have B1 := bdT hB0 hB0.size hb1; have p1 := (bkCell P1.out 1).trans (show _ = some (Value.slice A n c) from rfl); have p2 := (bkCell P1.out 2).trans (show _ = some (iv s.a2) from rfl); simp only [hva]))
  go_upto_region 5 with (fail)
  clear p1 p2
  have HP1 := Lib.hid (bkLt P1.out)
  have HR1 := Lib.hid (bkLt R1.out)
  go_loopw [4, 17] (fun q v wr => ∃ k : Nat, k ≤ n ∧ q = iv (mx xs k) ∧ v = iv k ∧ w1 = wr) (fun _ v _ => n - (intOf v).toNat)
  case atStart => exact ⟨0, by omega, rfl, rfl, rfl⟩
  case round =>
    obtain ⟨k, hk, rfl, rfl, rfl⟩ := hrel
    have l3 : (0 : Int) ≤ (k : Int) := by omega
    by_cases hlt : k < n
    · have l4 : (k : Int) < (n : Int) := by omega
      have tD := TD.out (by omega)
      subst tD
      have c0 := (HD.out.kept B1 (HD.out.low (by omega))).cell k hlt
      have X0 := Lib.hid (show -1000000 ≤ xs k ∧ xs k ≤ 1000000 by have := HX.out k hlt; omega)
      by_cases hc : mx xs k < ab (xs k)
      · skip
        have hv : mx xs (k + 1) = ab (xs k) := if_pos hc
        have m1 : (mx xs k < ab (xs k)) = True := eq_true hc
        have HV := Lib.hid hv
        clear hv
        clear hc
        have w3n := wrap_succ hlt hn
        go_wp2_with (go_at_call 56; (with_reducible refine (abs_any (xs k) X0.out.1 X0.out.2 _).mono ?_); rintro e w4 ⟨rfl, rfl⟩)
        try simp only [w3n]
        clear w3n
        refine ⟨⟨k + 1, by omega, by rw [HV.out], by go_num, by first | rfl | trivial⟩, ?_⟩
        simp [intOf]
        omega
      · skip
        have hv : mx xs (k + 1) = mx xs k := if_neg hc
        have m1 : (mx xs k < ab (xs k)) = False := eq_false hc
        have HV := Lib.hid hv
        clear hv
        clear hc
        have w3n := wrap_succ hlt hn
        go_wp2_with (go_at_call 56; (with_reducible refine (abs_any (xs k) X0.out.1 X0.out.2 _).mono ?_); rintro e w4 ⟨rfl, rfl⟩)
        try simp only [w3n]
        clear w3n
        refine ⟨⟨k + 1, by omega, by rw [HV.out], by go_num, by first | rfl | trivial⟩, ?_⟩
        simp [intOf]
        omega
    · obtain rfl : n = k := by omega
      have p1 := (bkCell P1.out 1).trans (show _ = some (Value.slice A n c) from rfl)
      go_upto_region 12 with (at_make; refine wpList_make_full _ rfl _ _ 22 rfl w.heap.size 3 i0 (.int .i64 0) 1 Try.underlying22 hi hz0 hz1 .i64 .i64 _ _ n rfl rfl rfl rfl (by rw [hz2]; have := HQ.out; omega) (by unfold maxLen; have := HQ.out; omega) (by have := B1.size; omega) ?_; intro w3 hown hgrow; have P3 := Lib.hid (grBlk P1.out hgrow (by simp)); have R3 := Lib.hid (grBlk R1.out hgrow (by simp)); have B3 := B1.grown hgrow B1.size (by simp); have O3 := Lib.hid hown; have hg3 := ownFarA hown; have p1 := (bkCell P3.out 1).trans (show _ = some (Value.slice A n c) from rfl))
      go_upto_region 13 with (fail)
      clear p1
      go_loopw [36] (fun v wr => ∃ (k : Nat) (F : Nat → Int), k ≤ n ∧ v = iv k ∧ (∀ i, i < k → F i = nr (xs i * 127) (mx xs n)) ∧ wr.heap[w.heap.size]? = some (.cells (s.cs A n c) 24 (0, 0)) ∧ wr.heap[w.heap.size + 1]? = some (.cells #[Value.string ⟨#[]⟩, Value.slice none 0 0, iv 0, iv 0, iv 0, iv 0, iv 0, iv 0, iv 0, iv 0, iv 0, iv 0, iv 0] 24 (0, 0)) ∧ wr.ownsRow w.heap.size 3 1 (.slice (some ⟨w1.heap.size, 0, none⟩) n n) n (rw_ F n) ∧ Below w.heap.size w wr) (fun v _ => n - (intOf v).toNat)
      case atStart => exact ⟨0, fun _ => 0, by omega, rfl, fun i hi => by omega, P3.out, R3.out, ownN O3.out (by rw [rw_zero]; first | rfl | (rw [Nat.mul_one]; exact toList_madeCells_one _ _)), B3⟩
      case round =>
        clear P3 R3 O3 B3
        obtain ⟨k, F, hk, rfl, hF, hP, hR, hO, hB⟩ := hrel
        have NF := Lib.hid hF
        have NP := Lib.hid hP
        have NR := Lib.hid hR
        have NO := Lib.hid hO
        clear hF hP hR hO
        have l3 : (0 : Int) ≤ (k : Int) := by omega
        by_cases hlt : k < n
        · have l4 : (k : Int) < (n : Int) := by omega
          have tD := TD.out (by omega)
          subst tD
          have c0 := (HD.out.kept hB (HD.out.low (by omega))).cell k hlt
          have w3n := wrap_succ hlt hn
          have s4 : wr.cell? ⟨w1.heap.size, k, none⟩ = some (iv (F k)) := (NO.out.cellAt k (by omega)).trans (rw_at F n k hlt)
          have f4 := NO.out.frozenAt k
          have p2 := (bkCell NP.out 2).trans (show _ = some (iv s.a2) from rfl)
          rw [HB8.out] at p2
          have x0 := HX.out k hlt
          have wn : wrap64 (xs k * 127) = xs k * 127 := by
            clear w3n
            exact wrap_in (by omega) (by omega)
          have RC := Lib.hid (fun W => round_any (xs k * 127) (mx xs n) (by clear wn w3n; omega) (by clear wn w3n; omega) HMP.out.1 HMP.out.2 W)
          clear x0
          go_wp2_with (go_at_call 66; (with_reducible refine (RC.out _).mono ?_); rintro e w4 ⟨rfl, rfl⟩)
          try simp only [w3n, wn]
          clear w3n wn
          have hP1 := HP1.out
          have hR1 := HR1.out
          exact ⟨⟨k + 1, fun i => if i = k then nr (xs k * 127) (mx xs n) else F i, by omega, by go_num, upto_step (H := fun i => nr (xs i * 127) (mx xs n)) NF.out, bkFar NP.out (by simp; omega) _, bkFar NR.out (by simp; omega) _, ownN (NO.out.stored k _).1 (rw_set F n k _), hB.setCell (by simp; omega) _⟩, by simp [intOf]; omega⟩
        · obtain rfl : n = k := by omega
          have D5 := Lib.hid (ownData NO.out)
          have M5 := Lib.hid (made_any s A n c (some ⟨w1.heap.size, 0, none⟩) n n w1.heap.size 0 F 128 HBT.out (by have := HQ.out; omega) wr D5.out)
          go_wp2_with (first
            | (refine wpList_load_row rfl 24 (.tmp 1) rfl (w.heap.size) rfl 24 _ (0, 0) _ NP.out Try.underlying24 rfl (S.i24 _ _ _ _) ?_)
            | (go_at_call 49; (with_reducible refine M5.out.mono ?_); rintro e w6 ⟨g, rfl, D6, hg6, hb6⟩; have R6 := Lib.hid (bkBelow NR.out hb6); have B6 := bdT hB hB.size hb6; have ND6 := Lib.hid D6)
            | (refine wpList_store_row rfl 24 (.tmp 2) (.tmp 56) rfl (w.heap.size + 1) (s.cs (some ⟨g, 0, none⟩) n n) rfl rfl 24 _ R6.out (S.i24 _ _ _ _) (S.sz S.zero s none _ 0 0 _ _) (S.one _ _ _ _) ?_))
          have hR4 := bkLt NR.out
          refine bodyPost_ret (res_ct rfl _ _ (w.heap.size + 1) 24 _ (0, 0) _ rfl (setRow_heap _ _ _ _ _ _ R6.out) Try.underlying24 rfl (S.i24 _ _ _ _)) rfl ⟨_, _, g, 0, rfl, (ND6.out.setRow (fun _ => by omega) _).congr fun i hi => by rw [NF.out i hi], below_setRow B6 (by omega) _⟩
set_option maxHeartbeats 16000000 in
set_option maxRecDepth 100000 in
theorem rnorm_ok16 (s : S) (A : Option Addr) (n c b o : Nat) (xs : Nat → Int) (w : World) (hA : DataAt w A n b o xs) (hn : (n : Int) ≤ 1000000) (hc : n ≤ c) (hb : Bits s.a2 32768) (hx : ∀ i, i < n → -32768 ≤ xs i ∧ xs i ≤ 32768 - 1) (hva : vS s n xs = true) (hn4 : (n : Int) ≤ 4096) (hb8 : s.a2 = 16) (hm : mx xs n ≠ 0) :
    Calls Try.prog 37 #[.agg (s.cs A n c)] w fun e w' => ∃ A' c' b o, e = .returned (.tuple #[.agg (s.cs A' n c'), iv 0]) ∧ DataAt w' A' n b o (fun i => clp 32768 (nr (xs i * 32767) (mx xs n))) ∧ Below w.heap.size w w' := by
  have hB0 : Below w.heap.size w ((w.alloc (Obj.cells (s.cs A n c) 24)).alloc (Obj.cells #[Value.string ⟨#[]⟩, Value.slice none 0 0, iv 0, iv 0, iv 0, iv 0, iv 0, iv 0, iv 0, iv 0, iv 0, iv 0, iv 0] 24)) := ((Below.refl _ _).alloc (Nat.le_refl _) _).alloc (by simp) _
  have P0 := Lib.hid (heap_alloc2_old w (Obj.cells (s.cs A n c) 24) (Obj.cells #[Value.string ⟨#[]⟩, Value.slice none 0 0, iv 0, iv 0, iv 0, iv 0, iv 0, iv 0, iv 0, iv 0, iv 0, iv 0, iv 0] 24))
  have R0 := Lib.hid (heap_alloc2_new w (Obj.cells (s.cs A n c) 24) (Obj.cells #[Value.string ⟨#[]⟩, Value.slice none 0 0, iv 0, iv 0, iv 0, iv 0, iv 0, iv 0, iv 0, iv 0, iv 0, iv 0, iv 0] 24))
  have HD := Lib.hid hA
  have TD := Lib.hid hA.top
  clear hA
  have l0 : (0 : Int) ≤ (n : Int) := by omega
  have HX := Lib.hid hx
  have HBT := Lib.hid hb
  have HBD := bits_bd hb
  have HS := Lib.hid (sm_bd hx HBD)
  have HM := Lib.hid (mx_bd hx HBD)
  have HQ := Lib.hid (And.intro hn hn4)
  clear hx hb hn4
  obtain ⟨i0, hi, hz0, hz1, hz2⟩ := info_parts info3
  have HB8 := Lib.hid hb8
  have e0 : (mx xs n == 0) = false := by simp [hm]
  have HMP := Lib.hid (show 0 < mx xs n ∧ mx xs n ≤ 1000000000000000 by have := HM.out n (Nat.le_refl _); omega)
  clear hm hb8
  go_enter Try.func37, Try.ntmps37
  go_upto_region 3 with (first
    | (refine wpList_load_row rfl 24 (.tmp 1) rfl (w.heap.size) rfl 24 _ (0, 0) _ P0.out Try.underlying24 rfl (S.i24 _ _ _ _) ?_)
    | (go_at_call 26; (with_reducible refine (rvalid_any s A n c b o xs (by omega) hc _ (HD.out.later hB0)).mono ?_); rintro e w1 ⟨rfl, hb1⟩; have P1 := Lib.hid (bkBelow P0.out hb1); have R1 := Lib.hid (bkBelow R0.out hb1); have B1 := bdT hB0 hB0.size hb1; have p1 := (bkCell P1.out 1).trans (show _ = some (Value.slice A n c) from rfl); have p2 := (bkCell P1.out 2).trans (show _ = some (iv s.a2) from rfl); simp only [hva]))
  go_upto_region 5 with (fail)
  clear p1 p2
  have HP1 := Lib.hid (bkLt P1.out)
  have HR1 := Lib.hid (bkLt R1.out)
  go_loopw [4, 17] (fun q v wr => ∃ k : Nat, k ≤ n ∧ q = iv (mx xs k) ∧ v = iv k ∧ w1 = wr) (fun _ v _ => n - (intOf v).toNat)
  case atStart => exact ⟨0, by omega, rfl, rfl, rfl⟩
  case round =>
    obtain ⟨k, hk, rfl, rfl, rfl⟩ := hrel
    have l3 : (0 : Int) ≤ (k : Int) := by omega
    by_cases hlt : k < n
    · have l4 : (k : Int) < (n : Int) := by omega
      have tD := TD.out (by omega)
      subst tD
      have c0 := (HD.out.kept B1 (HD.out.low (by omega))).cell k hlt
      have X0 := Lib.hid (show -1000000 ≤ xs k ∧ xs k ≤ 1000000 by have := HX.out k hlt; omega)
      by_cases hc : mx xs k < ab (xs k)
      · skip
        have hv : mx xs (k + 1) = ab (xs k) := if_pos hc
        have m1 : (mx xs k < ab (xs k)) = True := eq_true hc
        have HV := Lib.hid hv
        clear hv
        clear hc
        have w3n := wrap_succ hlt hn
        go_wp2_with (go_at_call 56; (with_reducible refine (abs_any (xs k) X0.out.1 X0.out.2 _).mono ?_); rintro e w4 ⟨rfl, rfl⟩)
        try simp only [w3n]
        clear w3n
        refine ⟨⟨k + 1, by omega, by rw [HV.out], by go_num, by first | rfl | trivial⟩, ?_⟩
        simp [intOf]
        omega
      · skip
        have hv : mx xs (k + 1) = mx xs k := if_neg hc
        have m1 : (mx xs k < ab (xs k)) = False := eq_false hc
        have HV := Lib.hid hv
        clear hv
        clear hc
        have w3n := wrap_succ hlt hn
        go_wp2_with (go_at_call 56; (with_reducible refine (abs_any (xs k) X0.out.1 X0.out.2 _).mono ?_); rintro e w4 ⟨rfl, rfl⟩)
        try simp only [w3n]
        clear w3n
        refine ⟨⟨k + 1, by omega, by rw [HV.out], by go_num, by first | rfl | trivial⟩, ?_⟩
        simp [intOf]
        omega
    · obtain rfl : n = k := by omega
      have p1 := (bkCell P1.out 1).trans (show _ = some (Value.slice A n c) from rfl)
      go_upto_region 12 with (at_make; refine wpList_make_full _ rfl _ _ 22 rfl w.heap.size 3 i0 (.int .i64 0) 1 Try.underlying22 hi hz0 hz1 .i64 .i64 _ _ n rfl rfl rfl rfl (by rw [hz2]; have := HQ.out; omega) (by unfold maxLen; have := HQ.out; omega) (by have := B1.size; omega) ?_; intro w3 hown hgrow; have P3 := Lib.hid (grBlk P1.out hgrow (by simp)); have R3 := Lib.hid (grBlk R1.out hgrow (by simp)); have B3 := B1.grown hgrow B1.size (by simp); have O3 := Lib.hid hown; have hg3 := ownFarA hown; have p1 := (bkCell P3.out 1).trans (show _ = some (Value.slice A n c) from rfl))
      go_upto_region 13 with (fail)
      clear p1
      go_loopw [36] (fun v wr => ∃ (k : Nat) (F : Nat → Int), k ≤ n ∧ v = iv k ∧ (∀ i, i < k → F i = nr (xs i * 32767) (mx xs n)) ∧ wr.heap[w.heap.size]? = some (.cells (s.cs A n c) 24 (0, 0)) ∧ wr.heap[w.heap.size + 1]? = some (.cells #[Value.string ⟨#[]⟩, Value.slice none 0 0, iv 0, iv 0, iv 0, iv 0, iv 0, iv 0, iv 0, iv 0, iv 0, iv 0, iv 0] 24 (0, 0)) ∧ wr.ownsRow w.heap.size 3 1 (.slice (some ⟨w1.heap.size, 0, none⟩) n n) n (rw_ F n) ∧ Below w.heap.size w wr) (fun v _ => n - (intOf v).toNat)
      case atStart => exact ⟨0, fun _ => 0, by omega, rfl, fun i hi => by omega, P3.out, R3.out, ownN O3.out (by rw [rw_zero]; first | rfl | (rw [Nat.mul_one]; exact toList_madeCells_one _ _)), B3⟩
      case round =>
        clear P3 R3 O3 B3
        obtain ⟨k, F, hk, rfl, hF, hP, hR, hO, hB⟩ := hrel
        have NF := Lib.hid hF
        have NP := Lib.hid hP
        have NR := Lib.hid hR
        have NO := Lib.hid hO
        clear hF hP hR hO
        have l3 : (0 : Int) ≤ (k : Int) := by omega
        by_cases hlt : k < n
        · have l4 : (k : Int) < (n : Int) := by omega
          have tD := TD.out (by omega)
          subst tD
          have c0 := (HD.out.kept hB (HD.out.low (by omega))).cell k hlt
          have w3n := wrap_succ hlt hn
          have s4 : wr.cell? ⟨w1.heap.size, k, none⟩ = some (iv (F k)) := (NO.out.cellAt k (by omega)).trans (rw_at F n k hlt)
          have f4 := NO.out.frozenAt k
          have p2 := (bkCell NP.out 2).trans (show _ = some (iv s.a2) from rfl)
          rw [HB8.out] at p2
          have x0 := HX.out k hlt
          have wn : wrap64 (xs k * 32767) = xs k * 32767 := by
            clear w3n
            exact wrap_in (by omega) (by omega)
          have RC := Lib.hid (fun W => round_any (xs k * 32767) (mx xs n) (by clear wn w3n; omega) (by clear wn w3n; omega) HMP.out.1 HMP.out.2 W)
          clear x0
          go_wp2_with (go_at_call 66; (with_reducible refine (RC.out _).mono ?_); rintro e w4 ⟨rfl, rfl⟩)
          try simp only [w3n, wn]
          clear w3n wn
          have hP1 := HP1.out
          have hR1 := HR1.out
          exact ⟨⟨k + 1, fun i => if i = k then nr (xs k * 32767) (mx xs n) else F i, by omega, by go_num, upto_step (H := fun i => nr (xs i * 32767) (mx xs n)) NF.out, bkFar NP.out (by simp; omega) _, bkFar NR.out (by simp; omega) _, ownN (NO.out.stored k _).1 (rw_set F n k _), hB.setCell (by simp; omega) _⟩, by simp [intOf]; omega⟩
        · obtain rfl : n = k := by omega
          have D5 := Lib.hid (ownData NO.out)
          have M5 := Lib.hid (made_any s A n c (some ⟨w1.heap.size, 0, none⟩) n n w1.heap.size 0 F 32768 HBT.out (by have := HQ.out; omega) wr D5.out)
          go_wp2_with (first
            | (refine wpList_load_row rfl 24 (.tmp 1) rfl (w.heap.size) rfl 24 _ (0, 0) _ NP.out Try.underlying24 rfl (S.i24 _ _ _ _) ?_)
            | (go_at_call 49; (with_reducible refine M5.out.mono ?_); rintro e w6 ⟨g, rfl, D6, hg6, hb6⟩; have R6 := Lib.hid (bkBelow NR.out hb6); have B6 := bdT hB hB.size hb6; have ND6 := Lib.hid D6)
            | (refine wpList_store_row rfl 24 (.tmp 2) (.tmp 56) rfl (w.heap.size + 1) (s.cs (some ⟨g, 0, none⟩) n n) rfl rfl 24 _ R6.out (S.i24 _ _ _ _) (S.sz S.zero s none _ 0 0 _ _) (S.one _ _ _ _) ?_))
          have hR4 := bkLt NR.out
          refine bodyPost_ret (res_ct rfl _ _ (w.heap.size + 1) 24 _ (0, 0) _ rfl (setRow_heap _ _ _ _ _ _ R6.out) Try.underlying24 rfl (S.i24 _ _ _ _)) rfl ⟨_, _, g, 0, rfl, (ND6.out.setRow (fun _ => by omega) _).congr fun i hi => by rw [NF.out i hi], below_setRow B6 (by omega) _⟩
end Go.Proofs.Ytejnhhjldddbdaa.TX

/- A sample that is centered, a sample that is normalized. -/
import Derived.Test.YtnmoiolddfboiaaTzF
namespace Go.Proofs.Ytnmoiolddfboiaa.TX
open Go.RowKit Go.Proofs.YtnmoiolddfboiaaW.PrintLast
set_option linter.unusedVariables false
set_option linter.unusedSimpArgs false
set_option maxHeartbeats 16000000 in
set_option maxRecDepth 100000 in
theorem norm_bad (s : S) (A : Option Addr) (n c b o : Nat) (xs : Nat → Int) (w : World) (hA : DataAt w A n b o xs) (hn : (n : Int) ≤ 1000000) (hc : n ≤ c) (hva : vS s n xs = false) :
    Calls Try.prog 54 #[.agg (s.cs A n c)] w fun e w' => e = .returned (.tuple #[.agg (S.zero.cs none 0 0), iv 1]) ∧ Below w.heap.size w w' := by
  have hB0 : Below w.heap.size w ((w.alloc (Obj.cells (s.cs A n c) 24)).alloc (Obj.cells #[Value.string ⟨#[]⟩, Value.slice none 0 0, iv 0, iv 0, iv 0, iv 0, iv 0, iv 0, iv 0, iv 0, iv 0, iv 0, iv 0] 24)) := ((Below.refl _ _).alloc (Nat.le_refl _) _).alloc (by simp) _
  have P0 := Lib.hid (heap_alloc2_old w (Obj.cells (s.cs A n c) 24) (Obj.cells #[Value.string ⟨#[]⟩, Value.slice none 0 0, iv 0, iv 0, iv 0, iv 0, iv 0, iv 0, iv 0, iv 0, iv 0, iv 0, iv 0] 24))
  have R0 := Lib.hid (heap_alloc2_new w (Obj.cells (s.cs A n c) 24) (Obj.cells #[Value.string ⟨#[]⟩, Value.slice none 0 0, iv 0, iv 0, iv 0, iv 0, iv 0, iv 0, iv 0, iv 0, iv 0, iv 0, iv 0] 24))
  have HD := Lib.hid hA
  have TD := Lib.hid hA.top
  clear hA
  have l0 : (0 : Int) ≤ (n : Int) := by omega
  go_enter Try.func54, Try.ntmps54
  go_wp2_with (first
    | (refine wpList_load_row rfl 24 (.tmp 1) rfl (w.heap.size) rfl 24 _ (0, 0) _ P0.out Try.underlying24 rfl (S.i24 _ _ _ _) ?_)
    | (go_at_call 15; (with_reducible refine (valid_any s A n c b o xs (by omega) hc _ (HD.out.later hB0)).mono ?_); rintro e w1 ⟨rfl, hb1⟩; have P1 := Lib.hid (bkBelow P0.out hb1); have R1 := Lib.hid (bkBelow R0.out hb1); have B1 := bdT hB0 hB0.size hb1; have p1 := (bkCell P1.out 1).trans (show _ = some (Value.slice A n c) from rfl); have p2 := (bkCell P1.out 2).trans (show _ = some (iv s.a2) from rfl); simp only [hva])
    | (refine wpBuild0 rfl 24 rfl (S.zero.cs none 0 0) built24 ?_)
    | (refine wpList_store_row rfl 24 (.tmp 2) (.tmp 12) rfl (w.heap.size + 1) (S.zero.cs none 0 0) rfl rfl 24 _ R1.out (S.i24 _ _ _ _) (S.sz S.zero S.zero none none 0 0 0 0) (S.one _ _ _ _) ?_))
  refine bodyPost_ret (res_ct rfl _ _ (w.heap.size + 1) 24 _ (0, 0) _ rfl (setRow_heap _ _ _ _ _ _ R1.out) Try.underlying24 rfl (S.i24 _ _ _ _)) rfl ⟨rfl, below_setRow B1 (by omega) _⟩
set_option maxHeartbeats 16000000 in
set_option maxRecDepth 100000 in
theorem cent_bad (s : S) (A : Option Addr) (n c b o : Nat) (xs : Nat → Int) (w : World) (hA : DataAt w A n b o xs) (hn : (n : Int) ≤ 1000000) (hc : n ≤ c) (hva : vS s n xs = false) :
    Calls Try.prog 57 #[.agg (s.cs A n c)] w fun e w' => e = .returned (.tuple #[.agg (S.zero.cs none 0 0), iv 1]) ∧ Below w.heap.size w w' := by
  have hB0 : Below w.heap.size w ((w.alloc (Obj.cells (s.cs A n c) 24)).alloc (Obj.cells #[Value.string ⟨#[]⟩, Value.slice none 0 0, iv 0, iv 0, iv 0, iv 0, iv 0, iv 0, iv 0, iv 0, iv 0, iv 0, iv 0] 24)) := ((Below.refl _ _).alloc (Nat.le_refl _) _).alloc (by simp) _
  have P0 := Lib.hid (heap_alloc2_old w (Obj.cells (s.cs A n c) 24) (Obj.cells #[Value.string ⟨#[]⟩, Value.slice none 0 0, iv 0, iv 0, iv 0, iv 0, iv 0, iv 0, iv 0, iv 0, iv 0, iv 0, iv 0] 24))
  have R0 := Lib.hid (heap_alloc2_new w (Obj.cells (s.cs A n c) 24) (Obj.cells #[Value.string ⟨#[]⟩, Value.slice none 0 0, iv 0, iv 0, iv 0, iv 0, iv 0, iv 0, iv 0, iv 0, iv 0, iv 0, iv 0] 24))
  have HD := Lib.hid hA
  have TD := Lib.hid hA.top
  clear hA
  have l0 : (0 : Int) ≤ (n : Int) := by omega
  go_enter Try.func57, Try.ntmps57
  go_wp2_with (first
    | (refine wpList_load_row rfl 24 (.tmp 1) rfl (w.heap.size) rfl 24 _ (0, 0) _ P0.out Try.underlying24 rfl (S.i24 _ _ _ _) ?_)
    | (go_at_call 15; (with_reducible refine (valid_any s A n c b o xs (by omega) hc _ (HD.out.later hB0)).mono ?_); rintro e w1 ⟨rfl, hb1⟩; have P1 := Lib.hid (bkBelow P0.out hb1); have R1 := Lib.hid (bkBelow R0.out hb1); have B1 := bdT hB0 hB0.size hb1; have p1 := (bkCell P1.out 1).trans (show _ = some (Value.slice A n c) from rfl); have p2 := (bkCell P1.out 2).trans (show _ = some (iv s.a2) from rfl); simp only [hva])
    | (refine wpBuild0 rfl 24 rfl (S.zero.cs none 0 0) built24 ?_)
    | (refine wpList_store_row rfl 24 (.tmp 2) (.tmp 10) rfl (w.heap.size + 1) (S.zero.cs none 0 0) rfl rfl 24 _ R1.out (S.i24 _ _ _ _) (S.sz S.zero S.zero none none 0 0 0 0) (S.one _ _ _ _) ?_))
  refine bodyPost_ret (res_ct rfl _ _ (w.heap.size + 1) 24 _ (0, 0) _ rfl (setRow_heap _ _ _ _ _ _ R1.out) Try.underlying24 rfl (S.i24 _ _ _ _)) rfl ⟨rfl, below_setRow B1 (by omega) _⟩
def sm (xs : Nat → Int) : Nat → Int
  | 0 => 0
  | k + 1 => sm xs k + xs k
theorem sm_bd {xs : Nat → Int} {n : Nat} {h : Int} (hx : ∀ i, i < n → -h ≤ xs i ∧ xs i ≤ h - 1) (hh : 1 ≤ h ∧ h ≤ 32768) : ∀ k, k ≤ n → -(32768 * (k : Int)) ≤ sm xs k ∧ sm xs k ≤ 32768 * (k : Int)
  | 0, _ => by simp [sm]
  | k + 1, hk => by
    have ih := sm_bd hx hh k (by omega)
    have := hx k (by omega)
    unfold sm
    omega
theorem wrap_in {x : Int} (h0 : -1000000000000 ≤ x) (h1 : x ≤ 1000000000000) : wrap64 x = x := by unfold wrap64; omega
def ab (x : Int) : Int := if x < 0 then -x else x
/-- the loudest of the first frames -/
def mx (xs : Nat → Int) : Nat → Int
  | 0 => 0
  | k + 1 => if mx xs k < ab (xs k) then ab (xs k) else mx xs k
theorem mx_bd {xs : Nat → Int} {n : Nat} {h : Int} (hx : ∀ i, i < n → -h ≤ xs i ∧ xs i ≤ h - 1) (hh : 1 ≤ h ∧ h ≤ 32768) : ∀ k, k ≤ n → 0 ≤ mx xs k ∧ mx xs k ≤ 32768
  | 0, _ => by simp [mx]
  | k + 1, hk => by
    have ih := mx_bd hx hh k (by omega)
    have := hx k (by omega)
    unfold mx ab
    repeat' split
    all_goals omega
set_option maxHeartbeats 4000000 in
set_option maxRecDepth 100000 in
theorem dist_any (x : Int) (h0 : -1000000 ≤ x) (h1 : x ≤ 1000000) (w : World) : Calls Try.prog 101 #[iv x, iv 0] w fun e w' => e = .returned (iv (ab x)) ∧ Below w.heap.size w w' := by
  by_cases h : x < 0
  · rw [show ab x = -x from if_pos h]
    have m1 : (x < -x) = True := eq_true (by omega)
    go_enter Try.func101, Try.ntmps101
    go_wp2
    all_goals (try go_quiet (fail))
    all_goals (try go_wp2)
    all_goals (go_ret; exact ⟨by first | rfl | (congr 2; omega), by first | exact (Below.refl _ _) | exact bdN (Below.refl _ _) _⟩)
  · rw [show ab x = x from if_neg h]
    rcases (by omega : x = 0 ∨ 0 < x) with rfl | h2
    · go_enter Try.func101, Try.ntmps101
      go_wp2
      all_goals (try go_quiet (fail))
      all_goals (try go_wp2)
      all_goals (go_ret; exact ⟨by first | rfl | (congr 2; omega), by first | exact (Below.refl _ _) | exact bdN (Below.refl _ _) _⟩)
    · have m1 : (x < -x) = False := eq_false (by omega)
      go_enter Try.func101, Try.ntmps101
      go_wp2
      all_goals (try go_quiet (fail))
      all_goals (try go_wp2)
      all_goals (go_ret; exact ⟨by first | rfl | (congr 2; omega), by first | exact (Below.refl _ _) | exact bdN (Below.refl _ _) _⟩)
set_option maxHeartbeats 4000000 in
set_option maxRecDepth 100000 in
theorem centfn_any (i n c gk gs : Nat) (v q : Int) (s : S) (A : Option Addr) (W : World) (hn : 0 < n) (hn2 : (n : Int) ≤ 1000000) (hv0 : -1000000 ≤ v) (hv1 : v ≤ 1000000) (hq0 : -1000000000000 ≤ q) (hq1 : q ≤ 1000000000000)
    (hK : W.heap[gk]? = some (.cells #[iv q] 3 (0, 0))) (hS : W.heap[gs]? = some (.cells (s.cs A n c) 24 (0, 0))) :
    Calls Try.prog 104 #[iv i, iv v, .pointer (some ⟨gk, 0, none⟩), .pointer (some ⟨gs, 0, none⟩)] W fun e w' => e = .returned (iv (v - q / n)) ∧ Below W.heap.size W w' := by
  have k0 := (bkCell hK 0).trans (show _ = some (iv q) from rfl)
  have q1 := (bkCell hS 1).trans (show _ = some (Value.slice A n c) from rfl)
  have b0 : -1000000000000 ≤ q / (n : Int) := Int.le_ediv_of_mul_le (by omega) (by omega)
  have b1 : q / (n : Int) ≤ 1000000000000 := Int.ediv_le_of_le_mul (by omega) (by omega)
  have wn : wrap64 (v - q / n) = v - q / n := by unfold wrap64; omega
  clear hK hS
  go_enter Try.func104, Try.ntmps104
  go_wp2_with (go_at_call 99; (with_reducible refine (floor_any _ _ (by omega) (by omega) (by omega) (by omega) _).mono ?_); rintro e w3 ⟨rfl, rfl⟩)
  go_ret
  exact ⟨rfl, Below.refl _ _⟩
set_option maxHeartbeats 4000000 in
set_option maxRecDepth 100000 in
theorem normfn_any (i gk gh : Nat) (v q h : Int) (W : World) (hv0 : -1000000 ≤ v) (hv1 : v ≤ 1000000) (hq0 : 0 < q) (hq1 : q ≤ 1000000) (hh0 : 0 ≤ h) (hh1 : h ≤ 100000)
    (hH : W.heap[gh]? = some (.cells #[iv h] 3 (0, 0))) (hK : W.heap[gk]? = some (.cells #[iv q] 3 (0, 0))) :
    Calls Try.prog 102 #[iv i, iv v, .pointer (some ⟨gh, 0, none⟩), .pointer (some ⟨gk, 0, none⟩)] W fun e w' => e = .returned (iv (nr (v * h) q)) ∧ Below W.heap.size W w' := by
  have k0 := (bkCell hK 0).trans (show _ = some (iv q) from rfl)
  have k1 := (bkCell hH 0).trans (show _ = some (iv h) from rfl)
  have b0 : v * h ≤ 1000000 * 100000 := Int.le_trans (Int.mul_le_mul_of_nonneg_right hv1 hh0) (Int.mul_le_mul_of_nonneg_left hh1 (by omega))
  have b1 : -(1000000 * 100000) ≤ v * h := by
    have h1 : (-1000000) * h ≤ v * h := Int.mul_le_mul_of_nonneg_right hv0 hh0
    omega
  have wn : wrap64 (v * h) = v * h := by unfold wrap64; omega
  clear hK hH
  go_enter Try.func102, Try.ntmps102
  go_wp2_with (go_at_call 98; (with_reducible refine (nearest_any _ _ (by clear wn; omega) (by clear wn; omega) (by omega) (by omega) _).mono ?_); rintro e w3 ⟨rfl, rfl⟩)
  go_ret
  exact ⟨rfl, Below.refl _ _⟩
set_option maxHeartbeats 16000000 in
set_option maxRecDepth 100000 in
theorem cent_ok (s : S) (A : Option Addr) (n c b o : Nat) (xs : Nat → Int) (w : World) (hA : DataAt w A n b o xs) (hn : (n : Int) ≤ 1000000) (hc : n ≤ c) (h : Int) (hb : Bits s.a2 h) (hx : ∀ i, i < n → -h ≤ xs i ∧ xs i ≤ h - 1) (hva : vS s n xs = true) (hn4 : (n : Int) ≤ 4096) :
    Calls Try.prog 57 #[.agg (s.cs A n c)] w fun e w' => ∃ A' c' b o, e = .returned (.tuple #[.agg (s.cs A' n c'), iv 0]) ∧ DataAt w' A' n b o (fun i => clp h (xs i - sm xs n / n)) ∧ Below w.heap.size w w' := by
  have hB0 : Below w.heap.size w ((w.alloc (Obj.cells (s.cs A n c) 24)).alloc (Obj.cells #[Value.string ⟨#[]⟩, Value.slice none 0 0, iv 0, iv 0, iv 0, iv 0, iv 0, iv 0, iv 0, iv 0, iv 0, iv 0, iv 0] 24)) := ((Below.refl _ _).alloc (Nat.le_refl _) _).alloc (by simp) _
  have P0 := Lib.hid (heap_alloc2_old w (Obj.cells (s.cs A n c) 24) (Obj.cells #[Value.string ⟨#[]⟩, Value.slice none 0 0, iv 0, iv 0, iv 0, iv 0, iv 0, iv 0, iv 0, iv 0, iv 0, iv 0, iv 0] 24))
  have R0 := Lib.hid (heap_alloc2_new w (Obj.cells (s.cs A n c) 24) (Obj.cells #[Value.string ⟨#[]⟩, Value.slice none 0 0, iv 0, iv 0, iv 0, iv 0, iv 0, iv 0, iv 0, iv 0, iv 0, iv 0, iv 0] 24))
  have HD := Lib.hid hA
  have TD := Lib.hid hA.top
  clear hA
  have l0 : (0 : Int) ≤ (n : Int) := by omega
  have HX := Lib.hid hx
  have HBT := Lib.hid hb
  have HBD := bits_bd hb
  have HS := Lib.hid (sm_bd hx HBD)
  have HM := Lib.hid (mx_bd hx HBD)
  have HQ := Lib.hid (And.intro hn hn4)
  clear hx hb hn4
  go_enter Try.func57, Try.ntmps57
  go_upto_region 3 with (first
    | (refine wpList_load_row rfl 24 (.tmp 1) rfl (w.heap.size) rfl 24 _ (0, 0) _ P0.out Try.underlying24 rfl (S.i24 _ _ _ _) ?_)
    | (go_at_call 15; (with_reducible refine (valid_any s A n c b o xs (by omega) hc _ (HD.out.later hB0)).mono ?_); rintro e w1 ⟨rfl, hb1⟩; have P1 := Lib.hid (bkBelow P0.out hb1); have R1 := Lib.hid (bkBelow R0.out hb1); have B1 := bdT hB0 hB0.size hb1; have p1 := (bkCell P1.out 1).trans (show _ = some (Value.slice A n c) from rfl); have p2 := (bkCell P1.out 2).trans (show _ = some (iv s.a2) from rfl); simp only [hva]))
  go_upto_region 4 with (fail)
  have hP1 := bkLt P1.out
  have hR1 := bkLt R1.out
  have P2 := Lib.hid (bkAlloc P1.out (Obj.cells #[iv 0] 3))
  have R2 := Lib.hid (bkAlloc R1.out (Obj.cells #[iv 0] 3))
  have K2 := Lib.hid (heap_alloc_new w1 (Obj.cells #[iv 0] 3))
  have B2 := B1.alloc B1.size (Obj.cells #[iv 0] 3)
  clear p1 p2
  have p1 := (bkCell P2.out 1).trans (show _ = some (Value.slice A n c) from rfl)
  go_upto_region 5 with (fail)
  clear p1
  go_loopw [14] (fun v wr => ∃ k : Nat, k ≤ n ∧ v = iv k ∧ wr.heap[w1.heap.size]? = some (.cells #[iv (sm xs k)] 3 (0, 0)) ∧ wr.heap[w.heap.size]? = some (.cells (s.cs A n c) 24 (0, 0)) ∧ wr.heap[w.heap.size + 1]? = some (.cells #[Value.string ⟨#[]⟩, Value.slice none 0 0, iv 0, iv 0, iv 0, iv 0, iv 0, iv 0, iv 0, iv 0, iv 0, iv 0, iv 0] 24 (0, 0)) ∧ Below w.heap.size w wr) (fun v _ => n - (intOf v).toNat)
  case atStart => exact ⟨0, by omega, rfl, K2.out, P2.out, R2.out, B2⟩
  case round =>
    clear K2 P2 R2 B2
    obtain ⟨k, hk, rfl, hK, hP, hR, hB⟩ := hrel
    have NK := Lib.hid hK
    have NP := Lib.hid hP
    have NR := Lib.hid hR
    clear hK hP hR
    have l3 : (0 : Int) ≤ (k : Int) := by omega
    by_cases hlt : k < n
    · have l4 : (k : Int) < (n : Int) := by omega
      have tD := TD.out (by omega)
      subst tD
      have c0 := (HD.out.kept hB (HD.out.low (by omega))).cell k hlt
      have w3n := wrap_succ hlt hn
      have k0 := (bkCell NK.out 0).trans (show _ = some (iv (sm xs k)) from rfl)
      have f0 := bkFrozen NK.out 0
      have wn : wrap64 (sm xs k + xs k) = sm xs k + xs k := by
        have h1 := HX.out k hlt
        have h2 := HS.out k (by omega)
        have h3 := HQ.out
        clear w3n
        exact wrap_in (by omega) (by omega)
      go_wp2
      try simp only [w3n, wn]
      clear w3n wn
      exact ⟨⟨k + 1, by omega, by go_num, bkPut NK.out 0 (iv (sm xs k + xs k)) rfl, bkFar NP.out (by simp; omega) _, bkFar NR.out (by simp; omega) _, hB.setCell (by simp; omega) _⟩, by simp [intOf]; omega⟩
    · obtain rfl : n = k := by omega
      have D5 := HD.out.later hB
      have M5 := Lib.hid (mapped_any s A n c b o xs h HBT.out (by have := HQ.out; omega) 104 #[.pointer (some ⟨w1.heap.size, 0, none⟩), .pointer (some ⟨w.heap.size, 0, none⟩)] (enters_of Try.func104 (by kernel_rfl) rfl) (fun i => xs i - sm xs n / n) wr D5 (fun W i hW hi => by
        have hq := HQ.out
        have h1 := HX.out i hi
        have h2 := HS.out n (by omega)
        exact centfn_any i n c (w1.heap.size) (w.heap.size) (xs i) (sm xs n) s A W (by omega) (by omega) (by omega) (by omega) (by omega) (by omega) (bkBelow NK.out hW) (bkBelow NP.out hW)))
      clear D5
      go_wp2_with (first
        | (refine wpList_load_row rfl 24 (.tmp 1) rfl (w.heap.size) rfl 24 _ (0, 0) _ NP.out Try.underlying24 rfl (S.i24 _ _ _ _) ?_)
        | (go_at_call 96; (with_reducible refine M5.out.mono ?_); rintro e w6 ⟨g, rfl, D6, hg6, hb6⟩; have R6 := Lib.hid (bkBelow NR.out hb6); have B6 := bdT hB hB.size hb6; have ND6 := Lib.hid D6)
        | (refine wpList_store_row rfl 24 (.tmp 2) (.tmp 24) rfl (w.heap.size + 1) (s.cs (some ⟨g, 0, none⟩) n n) rfl rfl 24 _ R6.out (S.i24 _ _ _ _) (S.sz S.zero s none _ 0 0 _ _) (S.one _ _ _ _) ?_))
      have hR4 := bkLt NR.out
      refine bodyPost_ret (res_ct rfl _ _ (w.heap.size + 1) 24 _ (0, 0) _ rfl (setRow_heap _ _ _ _ _ _ R6.out) Try.underlying24 rfl (S.i24 _ _ _ _)) rfl ⟨_, _, g, 0, rfl, ND6.out.setRow (fun _ => by omega) _, below_setRow B6 (by omega) _⟩
theorem mean_bd {n : Nat} {q : Int} (hn : 0 < n) (h : -(32768 * (n : Int)) ≤ q ∧ q ≤ 32768 * (n : Int)) (h4 : (n : Int) ≤ 4096) : (-32768 ≤ q / (n : Int) ∧ q / (n : Int) ≤ 32768) ∧ -1000000000 ≤ q ∧ q ≤ 1000000000 :=
  ⟨⟨Int.le_ediv_of_mul_le (by omega) (by omega), Int.ediv_le_of_le_mul (by omega) (by omega)⟩, by omega, by omega⟩
set_option maxHeartbeats 16000000 in
set_option maxRecDepth 100000 in
theorem norm_none (s : S) (A : Option Addr) (n c b o : Nat) (xs : Nat → Int) (w : World) (hA : DataAt w A n b o xs) (hn : (n : Int) ≤ 1000000) (hc : n ≤ c) (h : Int) (hb : Bits s.a2 h) (hx : ∀ i, i < n → -h ≤ xs i ∧ xs i ≤ h - 1) (hva : vS s n xs = true) (hn4 : (n : Int) ≤ 4096) (hm : mx xs n = 0) :
    Calls Try.prog 54 #[.agg (s.cs A n c)] w fun e w' => e = .returned (.tuple #[.agg (S.zero.cs none 0 0), iv 7]) ∧ Below w.heap.size w w' := by
  have hB0 : Below w.heap.size w ((w.alloc (Obj.cells (s.cs A n c) 24)).alloc (Obj.cells #[Value.string ⟨#[]⟩, Value.slice none 0 0, iv 0, iv 0, iv 0, iv 0, iv 0, iv 0, iv 0, iv 0, iv 0, iv 0, iv 0] 24)) := ((Below.refl _ _).alloc (Nat.le_refl _) _).alloc (by simp) _
  have P0 := Lib.hid (heap_alloc2_old w (Obj.cells (s.cs A n c) 24) (Obj.cells #[Value.string ⟨#[]⟩, Value.slice none 0 0, iv 0, iv 0, iv 0, iv 0, iv 0, iv 0, iv 0, iv 0, iv 0, iv 0, iv 0] 24))
  have R0 := Lib.hid (heap_alloc2_new w (Obj.cells (s.cs A n c) 24) (Obj.cells #[Value.string ⟨#[]⟩, Value.slice none 0 0, iv 0, iv 0, iv 0, iv 0, iv 0, iv 0, iv 0, iv 0, iv 0, iv 0, iv 0] 24))
  have HD := Lib.hid hA
  have TD := Lib.hid hA.top
  clear hA
  have l0 : (0 : Int) ≤ (n : Int) := by omega
  have HX := Lib.hid hx
  have HBT := Lib.hid hb
  have HBD := bits_bd hb
  have HS := Lib.hid (sm_bd hx HBD)
  have HM := Lib.hid (mx_bd hx HBD)
  have HQ := Lib.hid (And.intro hn hn4)
  clear hx hb hn4
  have e0 : (mx xs n == 0) = true := by simp [hm]
  clear hm
  go_enter Try.func54, Try.ntmps54
  go_upto_region 3 with (first
    | (refine wpList_load_row rfl 24 (.tmp 1) rfl (w.heap.size) rfl 24 _ (0, 0) _ P0.out Try.underlying24 rfl (S.i24 _ _ _ _) ?_)
    | (go_at_call 15; (with_reducible refine (valid_any s A n c b o xs (by omega) hc _ (HD.out.later hB0)).mono ?_); rintro e w1 ⟨rfl, hb1⟩; have P1 := Lib.hid (bkBelow P0.out hb1); have R1 := Lib.hid (bkBelow R0.out hb1); have B1 := bdT hB0 hB0.size hb1; have p1 := (bkCell P1.out 1).trans (show _ = some (Value.slice A n c) from rfl); have p2 := (bkCell P1.out 2).trans (show _ = some (iv s.a2) from rfl); simp only [hva]))
  go_upto_region 4 with (fail)
  have hP1 := bkLt P1.out
  have hR1 := bkLt R1.out
  have P2 := Lib.hid (bkAlloc P1.out (Obj.cells #[iv 0] 3))
  have R2 := Lib.hid (bkAlloc R1.out (Obj.cells #[iv 0] 3))
  have K2 := Lib.hid (heap_alloc_new w1 (Obj.cells #[iv 0] 3))
  have B2 := B1.alloc B1.size (Obj.cells #[iv 0] 3)
  clear p1 p2
  have p1 := (bkCell P2.out 1).trans (show _ = some (Value.slice A n c) from rfl)
  go_upto_region 5 with (fail)
  clear p1
  go_loopw [16] (fun v wr => ∃ k : Nat, k ≤ n ∧ v = iv k ∧ wr.heap[w1.heap.size]? = some (.cells #[iv (mx xs k)] 3 (0, 0)) ∧ wr.heap[w.heap.size]? = some (.cells (s.cs A n c) 24 (0, 0)) ∧ wr.heap[w.heap.size + 1]? = some (.cells #[Value.string ⟨#[]⟩, Value.slice none 0 0, iv 0, iv 0, iv 0, iv 0, iv 0, iv 0, iv 0, iv 0, iv 0, iv 0, iv 0] 24 (0, 0)) ∧ Below w.heap.size w wr) (fun v _ => n - (intOf v).toNat)
  case atStart => exact ⟨0, by omega, rfl, K2.out, P2.out, R2.out, B2⟩
  case round =>
    clear K2 P2 R2 B2
    obtain ⟨k, hk, rfl, hK, hP, hR, hB⟩ := hrel
    have NK := Lib.hid hK
    have NP := Lib.hid hP
    have NR := Lib.hid hR
    clear hK hP hR
    have l3 : (0 : Int) ≤ (k : Int) := by omega
    by_cases hlt : k < n
    · have l4 : (k : Int) < (n : Int) := by omega
      have tD := TD.out (by omega)
      subst tD
      have c0 := (HD.out.kept hB (HD.out.low (by omega))).cell k hlt
      have w3n := wrap_succ hlt hn
      have X0 := Lib.hid (show -1000000 ≤ xs k ∧ xs k ≤ 1000000 by have := HX.out k hlt; omega)
      have f0 := bkFrozen NK.out 0
      by_cases hc : mx xs k < ab (xs k)
      · skip
        have hv : mx xs (k + 1) = ab (xs k) := if_pos hc
        have m1 : (mx xs k < ab (xs k)) = True := eq_true hc
        have HV := Lib.hid hv
        clear hv
        clear hc w3n
        go_upto_region 7 with (fail)
        refine start_ (n := 5) (S := fun w' => w'.heap[w1.heap.size]? = some (.cells #[iv (mx xs k)] 3 (0, 0)) ∧ w'.heap[w.heap.size]? = some (.cells (s.cs (some ⟨b, o, none⟩) n c) 24 (0, 0)) ∧ w'.heap[w.heap.size + 1]? = some (.cells #[Value.string ⟨#[]⟩, Value.slice none 0 0, iv 0, iv 0, iv 0, iv 0, iv 0, iv 0, iv 0, iv 0, iv 0, iv 0, iv 0] 24 (0, 0)) ∧ Below w.heap.size w w') (ds := [4]) #[false, false, false, false, false] (by kernel_rfl) rfl rfl ⟨NK.out, NP.out, NR.out, hB.drew⟩ (fun hHeld => ?_)
        refine pure_ (i := 1) (N := some 21) (v := ?_) (a' := ?_) #[false, true, false, false, false] rfl rfl (by kernel_rfl) (fun _ _ _ h => h) (Or.inl ⟨by rfl, ?_⟩) ?_ ?_
        rotate_left
        · intro w'
          go_simp
          with_reducible rfl
        rotate_left
        · simp only [Act.put, List.setIfInBounds_toArray, List.set_cons_zero, List.set_cons_succ, i64_w, i32_w]
          rfl
        refine take_ (i := 0) (N := some 20) (v := ?_) (a' := ?_) #[true, true, false, false, false] rfl rfl (by kernel_rfl) (fun _ _ _ h => h) (Or.inl ⟨by rfl, ?_⟩) hHeld ?_ ?_
        rotate_left
        · rintro w' ⟨s0, s1, s2, s3⟩
          have k0 := (bkCell s0 0).trans (show _ = some (iv (mx xs k)) from rfl)
          clear s0 s1 s2 s3
          go_simp
          with_reducible rfl
        rotate_left
        · simp only [Act.put, List.setIfInBounds_toArray, List.set_cons_zero, List.set_cons_succ, i64_w, i32_w]
          rfl
        refine one_ (i := 2) (N := some 22) #[true, true, true, false, false] rfl rfl (by kernel_rfl) (by decide) (fun K hK => ?_)
        obtain ⟨s0, s1, s2, s3⟩ := hHeld
        refine goes_ Try.func101 (by kernel_rfl) rfl #[iv (xs k), iv 0] (by rfl) rfl rfl (by simp only [List.map_toArray, List.map_cons, List.map_nil]; rfl) ?_
        with_reducible refine (dist_any (xs k) X0.out.1 X0.out.2 _).mono ?_
        rintro e w4 ⟨rfl, hb4⟩
        refine ⟨_, rfl, ?_⟩
        refine hK.out _ _ ⟨bkBelow s0 hb4, bkBelow s1 hb4, bkBelow s2 hb4, bdT s3 s3.size hb4⟩ (fun hHeld => ?_)
        clear hK K
        refine norm_ (a' := ?_) ?_ ?_
        rotate_left
        · show Act.put _ (some 22) _ = _
          simp only [Act.put, List.setIfInBounds_toArray, List.set_cons_zero, List.set_cons_succ, i64_w, i32_w]
          rfl
        refine pure_ (i := 3) (N := some 23) (v := ?_) (a' := ?_) #[true, true, true, true, false] rfl rfl (by kernel_rfl) (fun _ _ _ h => h) (Or.inl ⟨by rfl, ?_⟩) ?_ ?_
        rotate_left
        · intro w'
          go_simp
          with_reducible rfl
        rotate_left
        · simp only [Act.put, List.setIfInBounds_toArray, List.set_cons_zero, List.set_cons_succ, i64_w, i32_w]
          rfl
        refine last_ (i := 4) (N := none) #[true, true, true, true, true] rfl rfl (by kernel_rfl) (by decide) (fun K hK => ?_)
        obtain ⟨K9, P9, R9, B9⟩ := hHeld
        have k9 := (bkCell K9 0).trans (show _ = some (iv (mx xs k)) from rfl)
        have f9 := bkFrozen K9 0
        have N9 := Lib.hid (And.intro K9 (And.intro P9 (And.intro R9 B9)))
        clear K9 P9 R9 B9
        refine skip_ (w1 := ?_) (by rfl) rfl ?_ ?_
        rotate_left
        · go_simp
          rfl
        refine hK.out _ _ ?_
        clear hK K
        refine done_ (by kernel_rfl) ?_
        have w3n := wrap_succ hlt hn
        go_wp2
        try simp only [w3n]
        clear w3n
        exact ⟨⟨k + 1, by omega, by go_num, by rw [HV.out]; exact bkPut N9.out.1 0 _ rfl, bkFar N9.out.2.1 (by simp; omega) _, bkFar N9.out.2.2.1 (by simp; omega) _, N9.out.2.2.2.setCell (by simp; omega) _⟩, by simp [intOf]; omega⟩
      · skip
        have hv : mx xs (k + 1) = mx xs k := if_neg hc
        have m1 : (mx xs k < ab (xs k)) = False := eq_false hc
        have HV := Lib.hid hv
        clear hv
        clear hc w3n
        go_upto_region 7 with (fail)
        refine start_ (n := 5) (S := fun w' => w'.heap[w1.heap.size]? = some (.cells #[iv (mx xs k)] 3 (0, 0)) ∧ w'.heap[w.heap.size]? = some (.cells (s.cs (some ⟨b, o, none⟩) n c) 24 (0, 0)) ∧ w'.heap[w.heap.size + 1]? = some (.cells #[Value.string ⟨#[]⟩, Value.slice none 0 0, iv 0, iv 0, iv 0, iv 0, iv 0, iv 0, iv 0, iv 0, iv 0, iv 0, iv 0] 24 (0, 0)) ∧ Below w.heap.size w w') (ds := [4]) #[false, false, false, false, false] (by kernel_rfl) rfl rfl ⟨NK.out, NP.out, NR.out, hB.drew⟩ (fun hHeld => ?_)
        refine pure_ (i := 1) (N := some 21) (v := ?_) (a' := ?_) #[false, true, false, false, false] rfl rfl (by kernel_rfl) (fun _ _ _ h => h) (Or.inl ⟨by rfl, ?_⟩) ?_ ?_
        rotate_left
        · intro w'
          go_simp
          with_reducible rfl
        rotate_left
        · simp only [Act.put, List.setIfInBounds_toArray, List.set_cons_zero, List.set_cons_succ, i64_w, i32_w]
          rfl
        refine take_ (i := 0) (N := some 20) (v := ?_) (a' := ?_) #[true, true, false, false, false] rfl rfl (by kernel_rfl) (fun _ _ _ h => h) (Or.inl ⟨by rfl, ?_⟩) hHeld ?_ ?_
        rotate_left
        · rintro w' ⟨s0, s1, s2, s3⟩
          have k0 := (bkCell s0 0).trans (show _ = some (iv (mx xs k)) from rfl)
          clear s0 s1 s2 s3
          go_simp
          with_reducible rfl
        rotate_left
        · simp only [Act.put, List.setIfInBounds_toArray, List.set_cons_zero, List.set_cons_succ, i64_w, i32_w]
          rfl
        refine one_ (i := 2) (N := some 22) #[true, true, true, false, false] rfl rfl (by kernel_rfl) (by decide) (fun K hK => ?_)
        obtain ⟨s0, s1, s2, s3⟩ := hHeld
        refine goes_ Try.func101 (by kernel_rfl) rfl #[iv (xs k), iv 0] (by rfl) rfl rfl (by simp only [List.map_toArray, List.map_cons, List.map_nil]; rfl) ?_
        with_reducible refine (dist_any (xs k) X0.out.1 X0.out.2 _).mono ?_
        rintro e w4 ⟨rfl, hb4⟩
        refine ⟨_, rfl, ?_⟩
        refine hK.out _ _ ⟨bkBelow s0 hb4, bkBelow s1 hb4, bkBelow s2 hb4, bdT s3 s3.size hb4⟩ (fun hHeld => ?_)
        clear hK K
        refine norm_ (a' := ?_) ?_ ?_
        rotate_left
        · show Act.put _ (some 22) _ = _
          simp only [Act.put, List.setIfInBounds_toArray, List.set_cons_zero, List.set_cons_succ, i64_w, i32_w]
          rfl
        refine pure_ (i := 3) (N := some 23) (v := ?_) (a' := ?_) #[true, true, true, true, false] rfl rfl (by kernel_rfl) (fun _ _ _ h => h) (Or.inl ⟨by rfl, ?_⟩) ?_ ?_
        rotate_left
        · intro w'
          go_simp
          with_reducible rfl
        rotate_left
        · simp only [Act.put, List.setIfInBounds_toArray, List.set_cons_zero, List.set_cons_succ, i64_w, i32_w]
          rfl
        refine last_ (i := 4) (N := none) #[true, true, true, true, true] rfl rfl (by kernel_rfl) (by decide) (fun K hK => ?_)
        obtain ⟨K9, P9, R9, B9⟩ := hHeld
        have k9 := (bkCell K9 0).trans (show _ = some (iv (mx xs k)) from rfl)
        have f9 := bkFrozen K9 0
        have N9 := Lib.hid (And.intro K9 (And.intro P9 (And.intro R9 B9)))
        clear K9 P9 R9 B9
        refine skip_ (w1 := ?_) (by rfl) rfl ?_ ?_
        rotate_left
        · go_simp
          rfl
        refine hK.out _ _ ?_
        clear hK K
        refine done_ (by kernel_rfl) ?_
        have w3n := wrap_succ hlt hn
        go_wp2
        try simp only [w3n]
        clear w3n
        exact ⟨⟨k + 1, by omega, by go_num, by rw [HV.out]; exact bkPut N9.out.1 0 _ rfl, bkFar N9.out.2.1 (by simp; omega) _, bkFar N9.out.2.2.1 (by simp; omega) _, N9.out.2.2.2.setCell (by simp; omega) _⟩, by simp [intOf]; omega⟩
    · obtain rfl : n = k := by omega
      have k0 := (bkCell NK.out 0).trans (show _ = some (iv (mx xs n)) from rfl)
      have hR4 := bkLt NR.out
      go_wp2_with (first
        | (refine wpBuild0 rfl 24 rfl (S.zero.cs none 0 0) built24 ?_)
        | (refine wpList_store_row rfl 24 (.tmp 2) (.tmp 27) rfl (w.heap.size + 1) (S.zero.cs none 0 0) rfl rfl 24 _ NR.out (S.i24 _ _ _ _) (S.sz S.zero S.zero none none 0 0 0 0) (S.one _ _ _ _) ?_))
      refine bodyPost_ret (res_ct rfl _ _ (w.heap.size + 1) 24 _ (0, 0) _ rfl (setRow_heap _ _ _ _ _ _ NR.out) Try.underlying24 rfl (S.i24 _ _ _ _)) rfl ⟨rfl, below_setRow hB (by omega) _⟩
set_option maxHeartbeats 16000000 in
set_option maxRecDepth 100000 in
theorem norm_ok (s : S) (A : Option Addr) (n c b o : Nat) (xs : Nat → Int) (w : World) (hA : DataAt w A n b o xs) (hn : (n : Int) ≤ 1000000) (hc : n ≤ c) (h : Int) (hb : Bits s.a2 h) (hx : ∀ i, i < n → -h ≤ xs i ∧ xs i ≤ h - 1) (hva : vS s n xs = true) (hn4 : (n : Int) ≤ 4096) (hm : mx xs n ≠ 0) :
    Calls Try.prog 54 #[.agg (s.cs A n c)] w fun e w' => ∃ A' c' b o, e = .returned (.tuple #[.agg (s.cs A' n c'), iv 0]) ∧ DataAt w' A' n b o (fun i => clp h (nr (xs i * (h - 1)) (mx xs n))) ∧ Below w.heap.size w w' := by
  have hB0 : Below w.heap.size w ((w.alloc (Obj.cells (s.cs A n c) 24)).alloc (Obj.cells #[Value.string ⟨#[]⟩, Value.slice none 0 0, iv 0, iv 0, iv 0, iv 0, iv 0, iv 0, iv 0, iv 0, iv 0, iv 0, iv 0] 24)) := ((Below.refl _ _).alloc (Nat.le_refl _) _).alloc (by simp) _
  have P0 := Lib.hid (heap_alloc2_old w (Obj.cells (s.cs A n c) 24) (Obj.cells #[Value.string ⟨#[]⟩, Value.slice none 0 0, iv 0, iv 0, iv 0, iv 0, iv 0, iv 0, iv 0, iv 0, iv 0, iv 0, iv 0] 24))
  have R0 := Lib.hid (heap_alloc2_new w (Obj.cells (s.cs A n c) 24) (Obj.cells #[Value.string ⟨#[]⟩, Value.slice none 0 0, iv 0, iv 0, iv 0, iv 0, iv 0, iv 0, iv 0, iv 0, iv 0, iv 0, iv 0] 24))
  have HD := Lib.hid hA
  have TD := Lib.hid hA.top
  clear hA
  have l0 : (0 : Int) ≤ (n : Int) := by omega
  have HX := Lib.hid hx
  have HBT := Lib.hid hb
  have HBD := bits_bd hb
  have HS := Lib.hid (sm_bd hx HBD)
  have HM := Lib.hid (mx_bd hx HBD)
  have HQ := Lib.hid (And.intro hn hn4)
  clear hx hb hn4
  have e0 : (mx xs n == 0) = false := by simp [hm]
  have HMP := Lib.hid (show 0 < mx xs n by have := HM.out n (Nat.le_refl _); omega)
  clear hm
  go_enter Try.func54, Try.ntmps54
  go_upto_region 3 with (first
    | (refine wpList_load_row rfl 24 (.tmp 1) rfl (w.heap.size) rfl 24 _ (0, 0) _ P0.out Try.underlying24 rfl (S.i24 _ _ _ _) ?_)
    | (go_at_call 15; (with_reducible refine (valid_any s A n c b o xs (by omega) hc _ (HD.out.later hB0)).mono ?_); rintro e w1 ⟨rfl, hb1⟩; have P1 := Lib.hid (bkBelow P0.out hb1); have R1 := Lib.hid (bkBelow R0.out hb1); have B1 := bdT hB0 hB0.size hb1; have p1 := (bkCell P1.out 1).trans (show _ = some (Value.slice A n c) from rfl); have p2 := (bkCell P1.out 2).trans (show _ = some (iv s.a2) from rfl); simp only [hva]))
  go_upto_region 4 with (fail)
  have hP1 := bkLt P1.out
  have hR1 := bkLt R1.out
  have P2 := Lib.hid (bkAlloc P1.out (Obj.cells #[iv 0] 3))
  have R2 := Lib.hid (bkAlloc R1.out (Obj.cells #[iv 0] 3))
  have K2 := Lib.hid (heap_alloc_new w1 (Obj.cells #[iv 0] 3))
  have B2 := B1.alloc B1.size (Obj.cells #[iv 0] 3)
  clear p1 p2
  have p1 := (bkCell P2.out 1).trans (show _ = some (Value.slice A n c) from rfl)
  go_upto_region 5 with (fail)
  clear p1
  go_loopw [16] (fun v wr => ∃ k : Nat, k ≤ n ∧ v = iv k ∧ wr.heap[w1.heap.size]? = some (.cells #[iv (mx xs k)] 3 (0, 0)) ∧ wr.heap[w.heap.size]? = some (.cells (s.cs A n c) 24 (0, 0)) ∧ wr.heap[w.heap.size + 1]? = some (.cells #[Value.string ⟨#[]⟩, Value.slice none 0 0, iv 0, iv 0, iv 0, iv 0, iv 0, iv 0, iv 0, iv 0, iv 0, iv 0, iv 0] 24 (0, 0)) ∧ Below w.heap.size w wr) (fun v _ => n - (intOf v).toNat)
  case atStart => exact ⟨0, by omega, rfl, K2.out, P2.out, R2.out, B2⟩
  case round =>
    clear K2 P2 R2 B2
    obtain ⟨k, hk, rfl, hK, hP, hR, hB⟩ := hrel
    have NK := Lib.hid hK
    have NP := Lib.hid hP
    have NR := Lib.hid hR
    clear hK hP hR
    have l3 : (0 : Int) ≤ (k : Int) := by omega
    by_cases hlt : k < n
    · have l4 : (k : Int) < (n : Int) := by omega
      have tD := TD.out (by omega)
      subst tD
      have c0 := (HD.out.kept hB (HD.out.low (by omega))).cell k hlt
      have w3n := wrap_succ hlt hn
      have X0 := Lib.hid (show -1000000 ≤ xs k ∧ xs k ≤ 1000000 by have := HX.out k hlt; omega)
      have f0 := bkFrozen NK.out 0
      by_cases hc : mx xs k < ab (xs k)
      · skip
        have hv : mx xs (k + 1) = ab (xs k) := if_pos hc
        have m1 : (mx xs k < ab (xs k)) = True := eq_true hc
        have HV := Lib.hid hv
        clear hv
        clear hc w3n
        go_upto_region 7 with (fail)
        refine start_ (n := 5) (S := fun w' => w'.heap[w1.heap.size]? = some (.cells #[iv (mx xs k)] 3 (0, 0)) ∧ w'.heap[w.heap.size]? = some (.cells (s.cs (some ⟨b, o, none⟩) n c) 24 (0, 0)) ∧ w'.heap[w.heap.size + 1]? = some (.cells #[Value.string ⟨#[]⟩, Value.slice none 0 0, iv 0, iv 0, iv 0, iv 0, iv 0, iv 0, iv 0, iv 0, iv 0, iv 0, iv 0] 24 (0, 0)) ∧ Below w.heap.size w w') (ds := [4]) #[false, false, false, false, false] (by kernel_rfl) rfl rfl ⟨NK.out, NP.out, NR.out, hB.drew⟩ (fun hHeld => ?_)
        refine pure_ (i := 1) (N := some 21) (v := ?_) (a' := ?_) #[false, true, false, false, false] rfl rfl (by kernel_rfl) (fun _ _ _ h => h) (Or.inl ⟨by rfl, ?_⟩) ?_ ?_
        rotate_left
        · intro w'
          go_simp
          with_reducible rfl
        rotate_left
        · simp only [Act.put, List.setIfInBounds_toArray, List.set_cons_zero, List.set_cons_succ, i64_w, i32_w]
          rfl
        refine take_ (i := 0) (N := some 20) (v := ?_) (a' := ?_) #[true, true, false, false, false] rfl rfl (by kernel_rfl) (fun _ _ _ h => h) (Or.inl ⟨by rfl, ?_⟩) hHeld ?_ ?_
        rotate_left
        · rintro w' ⟨s0, s1, s2, s3⟩
          have k0 := (bkCell s0 0).trans (show _ = some (iv (mx xs k)) from rfl)
          clear s0 s1 s2 s3
          go_simp
          with_reducible rfl
        rotate_left
        · simp only [Act.put, List.setIfInBounds_toArray, List.set_cons_zero, List.set_cons_succ, i64_w, i32_w]
          rfl
        refine one_ (i := 2) (N := some 22) #[true, true, true, false, false] rfl rfl (by kernel_rfl) (by decide) (fun K hK => ?_)
        obtain ⟨s0, s1, s2, s3⟩ := hHeld
        refine goes_ Try.func101 (by kernel_rfl) rfl #[iv (xs k), iv 0] (by rfl) rfl rfl (by simp only [List.map_toArray, List.map_cons, List.map_nil]; rfl) ?_
        with_reducible refine (dist_any (xs k) X0.out.1 X0.out.2 _).mono ?_
        rintro e w4 ⟨rfl, hb4⟩
        refine ⟨_, rfl, ?_⟩
        refine hK.out _ _ ⟨bkBelow s0 hb4, bkBelow s1 hb4, bkBelow s2 hb4, bdT s3 s3.size hb4⟩ (fun hHeld => ?_)
        clear hK K
        refine norm_ (a' := ?_) ?_ ?_
        rotate_left
        · show Act.put _ (some 22) _ = _
          simp only [Act.put, List.setIfInBounds_toArray, List.set_cons_zero, List.set_cons_succ, i64_w, i32_w]
          rfl
        refine pure_ (i := 3) (N := some 23) (v := ?_) (a' := ?_) #[true, true, true, true, false] rfl rfl (by kernel_rfl) (fun _ _ _ h => h) (Or.inl ⟨by rfl, ?_⟩) ?_ ?_
        rotate_left
        · intro w'
          go_simp
          with_reducible rfl
        rotate_left
        · simp only [Act.put, List.setIfInBounds_toArray, List.set_cons_zero, List.set_cons_succ, i64_w, i32_w]
          rfl
        refine last_ (i := 4) (N := none) #[true, true, true, true, true] rfl rfl (by kernel_rfl) (by decide) (fun K hK => ?_)
        obtain ⟨K9, P9, R9, B9⟩ := hHeld
        have k9 := (bkCell K9 0).trans (show _ = some (iv (mx xs k)) from rfl)
        have f9 := bkFrozen K9 0
        have N9 := Lib.hid (And.intro K9 (And.intro P9 (And.intro R9 B9)))
        clear K9 P9 R9 B9
        refine skip_ (w1 := ?_) (by rfl) rfl ?_ ?_
        rotate_left
        · go_simp
          rfl
        refine hK.out _ _ ?_
        clear hK K
        refine done_ (by kernel_rfl) ?_
        have w3n := wrap_succ hlt hn
        go_wp2
        try simp only [w3n]
        clear w3n
        exact ⟨⟨k + 1, by omega, by go_num, by rw [HV.out]; exact bkPut N9.out.1 0 _ rfl, bkFar N9.out.2.1 (by simp; omega) _, bkFar N9.out.2.2.1 (by simp; omega) _, N9.out.2.2.2.setCell (by simp; omega) _⟩, by simp [intOf]; omega⟩
      · skip
        have hv : mx xs (k + 1) = mx xs k := if_neg hc
        have m1 : (mx xs k < ab (xs k)) = False := eq_false hc
        have HV := Lib.hid hv
        clear hv
        clear hc w3n
        go_upto_region 7 with (fail)
        refine start_ (n := 5) (S := fun w' => w'.heap[w1.heap.size]? = some (.cells #[iv (mx xs k)] 3 (0, 0)) ∧ w'.heap[w.heap.size]? = some (.cells (s.cs (some ⟨b, o, none⟩) n c) 24 (0, 0)) ∧ w'.heap[w.heap.size + 1]? = some (.cells #[Value.string ⟨#[]⟩, Value.slice none 0 0, iv 0, iv 0, iv 0, iv 0, iv 0, iv 0, iv 0, iv 0, iv 0, iv 0, iv 0] 24 (0, 0)) ∧ Below w.heap.size w w') (ds := [4]) #[false, false, false, false, false] (by kernel_rfl) rfl rfl ⟨NK.out, NP.out, NR.out, hB.drew⟩ (fun hHeld => ?_)
        refine pure_ (i := 1) (N := some 21) (v := ?_) (a' := ?_) #[false, true, false, false, false] rfl rfl (by kernel_rfl) (fun _ _ _ h => h) (Or.inl ⟨by rfl, ?_⟩) ?_ ?_
        rotate_left
        · intro w'
          go_simp
          with_reducible rfl
        rotate_left
        · simp only [Act.put, List.setIfInBounds_toArray, List.set_cons_zero, List.set_cons_succ, i64_w, i32_w]
          rfl
        refine take_ (i := 0) (N := some 20) (v := ?_) (a' := ?_) #[true, true, false, false, false] rfl rfl (by kernel_rfl) (fun _ _ _ h => h) (Or.inl ⟨by rfl, ?_⟩) hHeld ?_ ?_
        rotate_left
        · rintro w' ⟨s0, s1, s2, s3⟩
          have k0 := (bkCell s0 0).trans (show _ = some (iv (mx xs k)) from rfl)
          clear s0 s1 s2 s3
          go_simp
          with_reducible rfl
        rotate_left
        · simp only [Act.put, List.setIfInBounds_toArray, List.set_cons_zero, List.set_cons_succ, i64_w, i32_w]
          rfl
        refine one_ (i := 2) (N := some 22) #[true, true, true, false, false] rfl rfl (by kernel_rfl) (by decide) (fun K hK => ?_)
        obtain ⟨s0, s1, s2, s3⟩ := hHeld
        refine goes_ Try.func101 (by kernel_rfl) rfl #[iv (xs k), iv 0] (by rfl) rfl rfl (by simp only [List.map_toArray, List.map_cons, List.map_nil]; rfl) ?_
        with_reducible refine (dist_any (xs k) X0.out.1 X0.out.2 _).mono ?_
        rintro e w4 ⟨rfl, hb4⟩
        refine ⟨_, rfl, ?_⟩
        refine hK.out _ _ ⟨bkBelow s0 hb4, bkBelow s1 hb4, bkBelow s2 hb4, bdT s3 s3.size hb4⟩ (fun hHeld => ?_)
        clear hK K
        refine norm_ (a' := ?_) ?_ ?_
        rotate_left
        · show Act.put _ (some 22) _ = _
          simp only [Act.put, List.setIfInBounds_toArray, List.set_cons_zero, List.set_cons_succ, i64_w, i32_w]
          rfl
        refine pure_ (i := 3) (N := some 23) (v := ?_) (a' := ?_) #[true, true, true, true, false] rfl rfl (by kernel_rfl) (fun _ _ _ h => h) (Or.inl ⟨by rfl, ?_⟩) ?_ ?_
        rotate_left
        · intro w'
          go_simp
          with_reducible rfl
        rotate_left
        · simp only [Act.put, List.setIfInBounds_toArray, List.set_cons_zero, List.set_cons_succ, i64_w, i32_w]
          rfl
        refine last_ (i := 4) (N := none) #[true, true, true, true, true] rfl rfl (by kernel_rfl) (by decide) (fun K hK => ?_)
        obtain ⟨K9, P9, R9, B9⟩ := hHeld
        have k9 := (bkCell K9 0).trans (show _ = some (iv (mx xs k)) from rfl)
        have f9 := bkFrozen K9 0
        have N9 := Lib.hid (And.intro K9 (And.intro P9 (And.intro R9 B9)))
        clear K9 P9 R9 B9
        refine skip_ (w1 := ?_) (by rfl) rfl ?_ ?_
        rotate_left
        · go_simp
          rfl
        refine hK.out _ _ ?_
        clear hK K
        refine done_ (by kernel_rfl) ?_
        have w3n := wrap_succ hlt hn
        go_wp2
        try simp only [w3n]
        clear w3n
        exact ⟨⟨k + 1, by omega, by go_num, by rw [HV.out]; exact bkPut N9.out.1 0 _ rfl, bkFar N9.out.2.1 (by simp; omega) _, bkFar N9.out.2.2.1 (by simp; omega) _, N9.out.2.2.2.setCell (by simp; omega) _⟩, by simp [intOf]; omega⟩
    · obtain rfl : n = k := by omega
      have k0 := (bkCell NK.out 0).trans (show _ = some (iv (mx xs n)) from rfl)
      have p2 := (bkCell NP.out 2).trans (show _ = some (iv s.a2) from rfl)
      have hK4 := bkLt NK.out
      have hR4 := bkLt NR.out
      have hP4 := bkLt NP.out
      go_upto_region 12 with (go_at_call 88; (with_reducible refine (limit_any _ _ HBT.out _).mono ?_); rintro e w0 ⟨rfl, m0, rfl⟩; have f7 : ((wr.drewN m0).alloc (Obj.cells #[iv 0] 3)).frozen? ⟨wr.heap.size, 0, none⟩ = false := bkFrozen (heap_alloc_new (wr.drewN m0) (Obj.cells #[iv 0] 3)) 0; have c7 : ((wr.drewN m0).alloc (Obj.cells #[iv 0] 3)).cell? ⟨wr.heap.size, 0, none⟩ = some (iv 0) := (bkCell (heap_alloc_new (wr.drewN m0) (Obj.cells #[iv 0] 3)) 0).trans rfl)
      have BB := bdN hB m0
      have P7 := Lib.hid (bkFar (bkAlloc (w := wr.drewN m0) (by exact NP.out) (Obj.cells #[iv 0] 3)) (p := ⟨wr.heap.size, 0, none⟩) (by simp; omega) (iv (h - 1)))
      have R7 := Lib.hid (bkFar (bkAlloc (w := wr.drewN m0) (by exact NR.out) (Obj.cells #[iv 0] 3)) (p := ⟨wr.heap.size, 0, none⟩) (by simp; omega) (iv (h - 1)))
      have K7 := Lib.hid (bkFar (bkAlloc (w := wr.drewN m0) (by exact NK.out) (Obj.cells #[iv 0] 3)) (p := ⟨wr.heap.size, 0, none⟩) (by simp; omega) (iv (h - 1)))
      have H7 := Lib.hid (show (((wr.drewN m0).alloc (Obj.cells #[iv 0] 3)).setCell ⟨wr.heap.size, 0, none⟩ (iv (h - 1))).heap[wr.heap.size]? = some (.cells #[iv (h - 1)] 3 (0, 0)) from bkPut (heap_alloc_new (wr.drewN m0) (Obj.cells #[iv 0] 3)) 0 (iv (h - 1)) rfl)
      have B7 := (BB.alloc BB.size (Obj.cells #[iv 0] 3)).setCell (p := ⟨wr.heap.size, 0, none⟩) BB.size (iv (h - 1))
      clear f7 c7
      have D5 := HD.out.later B7
      have M5 := Lib.hid (mapped_any s A n c b o xs h HBT.out (by have := HQ.out; omega) 102 #[.pointer (some ⟨wr.heap.size, 0, none⟩), .pointer (some ⟨w1.heap.size, 0, none⟩)] (enters_of Try.func102 (by kernel_rfl) rfl) (fun i => nr (xs i * (h - 1)) (mx xs n)) _ D5 (fun W i hW hi => by
        have h1 := HX.out i hi
        have h2 := HM.out n (by omega)
        exact normfn_any i (w1.heap.size) (wr.heap.size) (xs i) (mx xs n) (h - 1) W (by omega) (by omega) (by have := HMP.out; omega) (by omega) (by omega) (by omega) (bkBelow H7.out hW) (bkBelow K7.out hW)))
      clear D5 k0 p2
      go_wp2_with (first
        | (refine wpList_load_row rfl 24 (.tmp 1) rfl (w.heap.size) rfl 24 _ (0, 0) _ P7.out Try.underlying24 rfl (S.i24 _ _ _ _) ?_)
        | (go_at_call 96; (with_reducible refine M5.out.mono ?_); rintro e w6 ⟨g, rfl, D6, hg6, hb6⟩; have R8 := Lib.hid (bkBelow R7.out hb6); have B8 := bdT B7 B7.size hb6; have ND6 := Lib.hid D6)
        | (refine wpList_store_row rfl 24 (.tmp 2) (.tmp 36) rfl (w.heap.size + 1) (s.cs (some ⟨g, 0, none⟩) n n) rfl rfl 24 _ R8.out (S.i24 _ _ _ _) (S.sz S.zero s none _ 0 0 _ _) (S.one _ _ _ _) ?_))
      refine bodyPost_ret (res_ct rfl _ _ (w.heap.size + 1) 24 _ (0, 0) _ rfl (setRow_heap _ _ _ _ _ _ R8.out) Try.underlying24 rfl (S.i24 _ _ _ _)) rfl ⟨_, _, g, 0, rfl, ND6.out.setRow (fun _ => by simp at hg6; omega) _, below_setRow B8 (by omega) _⟩
end Go.Proofs.Ytnmoiolddfboiaa.TX

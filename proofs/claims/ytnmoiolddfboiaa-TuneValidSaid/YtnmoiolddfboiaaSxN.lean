/- The reference's cursor: begun, moved, tapped: the same answers. -/
import Derived.Test.YtnmoiolddfboiaaSxM
namespace Go.Proofs.Ytnmoiolddfboiaa.SX
open Go.RowKit Go.Proofs.YtnmoiolddfboiaaW.PrintLast Go.Proofs.Ytnmoiolddfboiaa.TX Go.Proofs.Ytnmoiolddfboiaa.Cu
set_option linter.unusedVariables false
set_option linter.unusedSimpArgs false
set_option maxHeartbeats 4000000 in
set_option maxRecDepth 100000 in
theorem stands_any (s : S) (A : Option Addr) (n c0 : Nat) (c : Cur) (w : World) : Calls Try.prog 63 #[.agg (s.cs A n c0), .agg (Cur.cs c)] w fun e w' => e = .returned (.bool (okB n c)) ∧ Below w.heap.size w w' := by
  obtain ⟨ps, fr, bk, dn⟩ := c
  obtain ⟨r, hr⟩ : ∃ r, okB n ⟨ps, fr, bk, dn⟩ = r := ⟨_, rfl⟩
  rw [hr]
  unfold okB at hr
  simp only at hr
  have y1 : (s.cs A n c0)[1]? = some (.slice A n c0) := rfl
  have y2 : (s.cs A n c0)[2]? = some (iv s.a2) := rfl
  cases dn
  · rw [if_neg (show ¬ (false = true) by decide)] at hr
    by_cases c1 : 0 ≤ ps
    · have d1 : decide (0 ≤ ps) = true := decide_eq_true c1
      by_cases c2 : ps < n
      · have d2 : decide (ps < (n : Int)) = true := decide_eq_true c2
        by_cases c3 : 0 ≤ fr
        · have d3 : decide (0 ≤ fr) = true := decide_eq_true c3
          by_cases c4 : fr ≤ 65535
          · have d4 : decide (fr ≤ 65535) = true := decide_eq_true c4
            obtain rfl : true = r := (decide_eq_true (by omega)).symm.trans hr
            (clear hr; unfold Cur.cs; go_enter Try.func63, Try.ntmps63; go_wp2; go_ret; exact ⟨rfl, ((Below.refl _ _).alloc (Nat.le_refl _) _).alloc (by simp) _⟩)
          · have d4 : decide (fr ≤ 65535) = false := decide_eq_false c4
            obtain rfl : false = r := (decide_eq_false (by omega)).symm.trans hr
            (clear hr; unfold Cur.cs; go_enter Try.func63, Try.ntmps63; go_wp2; go_ret; exact ⟨rfl, ((Below.refl _ _).alloc (Nat.le_refl _) _).alloc (by simp) _⟩)
        · have d3 : decide (0 ≤ fr) = false := decide_eq_false c3
          obtain rfl : false = r := (decide_eq_false (by omega)).symm.trans hr
          (clear hr; unfold Cur.cs; go_enter Try.func63, Try.ntmps63; go_wp2; go_ret; exact ⟨rfl, ((Below.refl _ _).alloc (Nat.le_refl _) _).alloc (by simp) _⟩)
      · have d2 : decide (ps < (n : Int)) = false := decide_eq_false c2
        obtain rfl : false = r := (decide_eq_false (by omega)).symm.trans hr
        (clear hr; unfold Cur.cs; go_enter Try.func63, Try.ntmps63; go_wp2; go_ret; exact ⟨rfl, ((Below.refl _ _).alloc (Nat.le_refl _) _).alloc (by simp) _⟩)
    · have d1 : decide (0 ≤ ps) = false := decide_eq_false c1
      obtain rfl : false = r := (decide_eq_false (by omega)).symm.trans hr
      (clear hr; unfold Cur.cs; go_enter Try.func63, Try.ntmps63; go_wp2; go_ret; exact ⟨rfl, ((Below.refl _ _).alloc (Nat.le_refl _) _).alloc (by simp) _⟩)
  · rw [if_pos rfl] at hr
    have eq : ∀ W : World, (Op.equalIn 10000 26 (.agg #[iv ps, iv fr, .bool bk, .bool true]) (.agg (Cur.cs Cur.over))).run Try.prog W = .ok r W := by
      intro W
      rw [← hr]
      unfold Cur.cs Cur.over
      cases bk <;> by_cases c1 : ps = 0 <;> by_cases c2 : fr = 0 <;> (try simp only [c1, c2]) <;> (try go_simp) <;> (try simp [c1, c2])
    clear hr
    have B0 : Below w.heap.size w ((w.alloc (Obj.cells (s.cs A n c0) 24)).alloc (Obj.cells #[iv ps, iv fr, .bool bk, .bool true] 26)) := ((Below.refl _ _).alloc (Nat.le_refl _) _).alloc (by simp) _
    have H0 := Lib.hid (show ((w.alloc (Obj.cells (s.cs A n c0) 24)).alloc (Obj.cells #[iv ps, iv fr, .bool bk, .bool true] 26)).heap[w.heap.size + 1]? = some (.cells #[iv ps, iv fr, .bool bk, .bool true] 26 (0, 0)) from heap_alloc2_new w _ _)
    unfold Cur.cs
    go_enter Try.func63, Try.ntmps63
    go_wp2
    refine start_ (n := 4) (S := fun w' => w'.heap[w.heap.size + 1]? = some (.cells #[iv ps, iv fr, .bool bk, .bool true] 26 (0, 0)) ∧ Below w.heap.size w w') (ds := []) #[false, false, false, false] (by kernel_rfl) rfl rfl ⟨H0.out, B0.drew⟩ (fun hHeld => ?_)
    refine take_ (i := 0) (N := some 7) (v := ?_) (a' := ?_) #[true, false, false, false] rfl rfl (by kernel_rfl) (fun _ _ _ h => h) (Or.inl ⟨by rfl, ?_⟩) hHeld ?_ ?_
    rotate_left
    · rintro w' ⟨s0, s1⟩
      refine exec_load_row 26 (.tmp 3) ?_ (w.heap.size + 1) ?_ 26 _ _ _ s0 Try.underlying26 rfl (by kernel_rfl) <;> rfl
    rotate_left
    · simp only [Act.put, List.setIfInBounds_toArray, List.set_cons_zero, List.set_cons_succ, i64_w, i32_w]
      rfl
    refine one_ (i := 1) (N := some 8) #[true, true, false, false] rfl rfl (by kernel_rfl) (by decide) (fun K hK => ?_)
    obtain ⟨s0, s1⟩ := hHeld
    refine goes_ Try.func71 (by kernel_rfl) rfl #[] (by rfl) rfl rfl (by simp) ?_
    with_reducible refine (over_any _).mono ?_
    rintro e w4 ⟨rfl, hb4⟩
    refine ⟨_, rfl, ?_⟩
    have t0 := Lib.hid (bkBelow s0 hb4)
    have B9 := bdT s1 s1.size hb4
    clear s0 s1
    refine hK.out _ _ ⟨t0.out, B9⟩ (fun hHeld => ?_)
    clear hK K
    refine norm_ (a' := ?_) ?_ ?_
    rotate_left
    · show Act.put _ (some 8) _ = _
      simp only [Act.put, List.setIfInBounds_toArray, List.set_cons_zero, List.set_cons_succ, i64_w, i32_w]
      rfl
    refine pure_ (i := 2) (N := some 9) (v := ?_) (a' := ?_) #[true, true, true, false] rfl rfl (by kernel_rfl) (fun _ _ _ h => h) (Or.inl ⟨by rfl, ?_⟩) ?_ ?_
    rotate_left
    · intro w'
      go_simp
      with_reducible rfl
    rotate_left
    · simp only [Act.put, List.setIfInBounds_toArray, List.set_cons_zero, List.set_cons_succ, i64_w, i32_w]
      rfl
    refine pure_ (i := 3) (N := some 4) (v := ?_) (a' := ?_) #[true, true, true, true] rfl rfl (by kernel_rfl) (fun _ _ _ h => h) (Or.inl ⟨by rfl, ?_⟩) ?_ ?_
    rotate_left
    · intro w'
      go_simp
      with_reducible rfl
    rotate_left
    · simp only [Act.put, List.setIfInBounds_toArray, List.set_cons_zero, List.set_cons_succ, i64_w, i32_w]
      rfl
    refine done_ (by kernel_rfl) ?_
    go_wp2
    go_ret
    exact ⟨rfl, B9⟩
set_option maxHeartbeats 4000000 in
set_option maxRecDepth 100000 in
theorem heard_any (s : S) (A : Option Addr) (n c0 b o : Nat) (xs : Nat → Int) (i : Int) (hx : Frames s n xs) (hn : n ≤ 4096) (w : World) (hA : DataAt w A n b o xs) : Calls Try.prog 111 #[.agg (s.cs A n c0), iv i] w fun e w' => e = .returned (iv (hrd s n xs i)) ∧ Below w.heap.size w w' := by
  have y1 : (s.cs A n c0)[1]? = some (.slice A n c0) := rfl
  have y2 : (s.cs A n c0)[2]? = some (iv s.a2) := rfl
  have B0 : Below w.heap.size w (w.alloc (Obj.cells (s.cs A n c0) 24)) := (Below.refl _ _).alloc (Nat.le_refl _) _
  by_cases h0 : i < 0
  · rw [show hrd s n xs i = 0 from if_pos (.inl h0)]
    go_enter Try.func111, Try.ntmps111
    go_wp2
    go_ret
    exact ⟨rfl, B0⟩
  · have d0 : decide (i < 0) = false := decide_eq_false h0
    by_cases h1 : (n : Int) ≤ i
    · rw [show hrd s n xs i = 0 from if_pos (.inr h1)]
      go_enter Try.func111, Try.ntmps111
      go_wp2
      go_ret
      exact ⟨rfl, B0⟩
    · have d1 : decide ((n : Int) ≤ i) = false := decide_eq_false h1
      obtain ⟨j, rfl⟩ := Int.eq_ofNat_of_zero_le (show 0 ≤ i by omega)
      have hj : j < n := by omega
      have q0 : (0 : Int) ≤ (j : Int) := by omega
      have q1 : (j : Int) < (n : Int) := by omega
      have d2 : decide (n ≤ j) = false := decide_eq_false (by omega)
      have tA := hA.top (by omega)
      subst tA
      have hc := (hA.later B0).cell j hj
      have hx0 := hx j hj
      have x0 := hx0.1
      have x1 := hx0.2
      clear hA hx hx0
      by_cases h8 : s.a2 = 8
      · rw [show hrd s n xs j = 256 * xs j from by unfold hrd; rw [if_neg (by omega), if_pos h8, Int.mul_comm]; rfl]
        have e8 : (s.a2 == 8) = true := by simp [h8]
        clear h8
        generalize xs j = v at *
        go_enter Try.func111, Try.ntmps111
        go_wp2
        go_ret
        exact ⟨rfl, B0⟩
      · rw [show hrd s n xs j = xs j from by unfold hrd; rw [if_neg (by omega), if_neg h8]; rfl]
        have e8 : (s.a2 == 8) = false := by simp [h8]
        clear h8
        generalize xs j = v at *
        go_enter Try.func111, Try.ntmps111
        go_wp2
        go_ret
        exact ⟨rfl, B0⟩
set_option maxHeartbeats 4000000 in
set_option maxRecDepth 100000 in
theorem tapped_done (s : S) (A : Option Addr) (n c0 b o : Nat) (xs : Nat → Int) (ps fr : Int) (bk : Bool) (k : Int) (held : Bool) (w : World) : Calls Try.prog 73 #[.agg (s.cs A n c0), .agg (Cur.cs ⟨ps, fr, bk, true⟩), iv k, .bool held] w fun e w' => e = .returned (iv 0) ∧ Below w.heap.size w w' := by
  unfold Cur.cs
  go_enter Try.func73, Try.ntmps73
  go_wp2
  go_ret
  exact ⟨rfl, ((Below.refl _ _).alloc (Nat.le_refl _) _).alloc (by simp) _⟩
set_option maxHeartbeats 4000000 in
set_option maxRecDepth 100000 in
theorem tapped_low (s : S) (A : Option Addr) (n c0 b o : Nat) (xs : Nat → Int) (ps fr : Int) (bk : Bool) (k : Int) (held : Bool) (hx : Frames s n xs) (hn : n ≤ 4096) (hp : 0 ≤ ps ∧ ps < n) (hk : -1000 ≤ k) (hk0 : k ≤ 0) (w : World) (hA : DataAt w A n b o xs) : Calls Try.prog 73 #[.agg (s.cs A n c0), .agg (Cur.cs ⟨ps, fr, bk, false⟩), iv k, .bool held] w fun e w' => e = .returned (iv (hrd s n xs (if bk = true then ps - k else ps + k))) ∧ Below w.heap.size w w' := by
  have dk : decide (0 < k) = false := decide_eq_false (by omega)
  have p0 := hp.1
  have p1 : ps ≤ 5000 := by omega
  have HC := Lib.hid fun (i : Int) (W : World) (h : DataAt W A n b o xs) => heard_any s A n c0 b o xs i hx hn W h
  cases bk
  · rw [if_neg (show ¬ (false = true) by decide)]
    have B0 : Below w.heap.size w ((w.alloc (Obj.cells (s.cs A n c0) 24)).alloc (Obj.cells #[iv ps, iv fr, .bool false, .bool false] 26)) := ((Below.refl _ _).alloc (Nat.le_refl _) _).alloc (by simp) _
    have P0 := Lib.hid (show ((w.alloc (Obj.cells (s.cs A n c0) 24)).alloc (Obj.cells #[iv ps, iv fr, .bool false, .bool false] 26)).heap[w.heap.size]? = some (.cells (s.cs A n c0) 24 (0, 0)) from heap_alloc2_old w _ _)
    have D0 := Lib.hid (hA.later B0)
    have w1 : wrap64 (ps + k) = ps + k := wrap_in (by omega) (by omega)
    clear hA hp hx
    unfold Cur.cs
    go_enter Try.func73, Try.ntmps73
    go_wp2_with (first
      | (refine wpList_load_row rfl 24 (.tmp 4) rfl (w.heap.size) rfl 24 _ (0, 0) _ P0.out Try.underlying24 rfl (S.i24 _ _ _ _) ?_)
      | (go_at_call 111; (with_reducible refine (HC.out _ _ D0.out).mono ?_); rintro e w9 ⟨rfl, hb9⟩; have B9 := bdT B0 B0.size hb9))
    go_ret
    exact ⟨rfl, B9⟩
  · rw [if_pos rfl]
    have B0 : Below w.heap.size w ((w.alloc (Obj.cells (s.cs A n c0) 24)).alloc (Obj.cells #[iv ps, iv fr, .bool true, .bool false] 26)) := ((Below.refl _ _).alloc (Nat.le_refl _) _).alloc (by simp) _
    have P0 := Lib.hid (show ((w.alloc (Obj.cells (s.cs A n c0) 24)).alloc (Obj.cells #[iv ps, iv fr, .bool true, .bool false] 26)).heap[w.heap.size]? = some (.cells (s.cs A n c0) 24 (0, 0)) from heap_alloc2_old w _ _)
    have D0 := Lib.hid (hA.later B0)
    have w1 : wrap64 (ps - k) = ps - k := wrap_in (by omega) (by omega)
    clear hA hp hx
    unfold Cur.cs
    go_enter Try.func73, Try.ntmps73
    go_wp2_with (first
      | (refine wpList_load_row rfl 24 (.tmp 4) rfl (w.heap.size) rfl 24 _ (0, 0) _ P0.out Try.underlying24 rfl (S.i24 _ _ _ _) ?_)
      | (go_at_call 111; (with_reducible refine (HC.out _ _ D0.out).mono ?_); rintro e w9 ⟨rfl, hb9⟩; have B9 := bdT B0 B0.size hb9))
    go_ret
    exact ⟨rfl, B9⟩
set_option maxHeartbeats 4000000 in
set_option maxRecDepth 100000 in
theorem tapped_high (s : S) (A : Option Addr) (n c0 b o : Nat) (xs : Nat → Int) (ps fr : Int) (bk : Bool) (k : Int) (held : Bool) (hL : Loops s n) (hx : Frames s n xs) (hp : 0 ≤ ps ∧ ps < n) (hk : 0 < k) (hk8 : k ≤ 8) (d : Cur) (hd : d = moveM s n ⟨ps, 0, bk, false⟩ (k * 65536) held) (w : World) (hA : DataAt w A n b o xs) : Calls Try.prog 73 #[.agg (s.cs A n c0), .agg (Cur.cs ⟨ps, fr, bk, false⟩), iv k, .bool held] w fun e w' => e = .returned (iv (tapR s n xs d)) ∧ Below w.heap.size w w' := by
  have hn := hL.1
  have HC := Lib.hid fun (i : Int) (W : World) (h : DataAt W A n b o xs) => heard_any s A n c0 b o xs i hx hn W h
  have B0 : Below w.heap.size w ((w.alloc (Obj.cells (s.cs A n c0) 24)).alloc (Obj.cells #[iv ps, iv 0, .bool bk, .bool false] 26)) := ((Below.refl _ _).alloc (Nat.le_refl _) _).alloc (by simp) _
  have P0 := Lib.hid (show ((w.alloc (Obj.cells (s.cs A n c0) 24)).alloc (Obj.cells #[iv ps, iv 0, .bool bk, .bool false] 26)).heap[w.heap.size]? = some (.cells (s.cs A n c0) 24 (0, 0)) from heap_alloc2_old w _ _)
  have C0 := Lib.hid (show ((w.alloc (Obj.cells (s.cs A n c0) 24)).alloc (Obj.cells #[iv ps, iv 0, .bool bk, .bool false] 26)).heap[w.heap.size + 1]? = some (.cells (Cur.cs ⟨ps, 0, bk, false⟩) 26 (0, 0)) from heap_alloc2_new w _ _)
  have D0 := Lib.hid (hA.later B0)
  have GC := Lib.hid (show ∀ W : World, Calls Try.prog 64 #[.agg (s.cs A n c0), .agg #[iv ps, iv 0, .bool bk, .bool false], iv (65536 * k), .bool held] W fun e w' => e = .returned (.agg (Cur.cs d)) ∧ Below W.heap.size W w' from fun W => by
    rw [hd, show 65536 * k = k * 65536 by omega]
    exact gone_any s A n c0 ⟨ps, 0, bk, false⟩ (k * 65536) held hL (by unfold CurOk; rw [if_neg (show ¬ (false = true) by decide)]; simp only; omega) (by omega) (by omega) W)
  clear hA hx hp hd hL
  have d0 : decide (0 < k) = true := decide_eq_true hk
  have w1 : wrap64 (65536 * k) = 65536 * k := wrap_in (by omega) (by omega)
  unfold Cur.cs
  go_enter Try.func73, Try.ntmps73
  go_upto_region 6 with (first
    | (refine wpList_load_row rfl 24 (.tmp 4) rfl (w.heap.size) rfl 24 _ (0, 0) _ P0.out Try.underlying24 rfl (S.i24 _ _ _ _) ?_)
    | (go_at_call 64; (with_reducible refine (GC.out _).mono ?_); rintro e w1 ⟨rfl, hb1⟩; have P1 := Lib.hid (bkBelow P0.out hb1); have C1 := Lib.hid (bkBelow C0.out hb1); have D1 := Lib.hid (D0.out.later hb1); have B1 := bdT B0 B0.size hb1; clear P0 C0 D0)
    | (refine wpList_store_row rfl 26 (.tmp 9) (.tmp 22) rfl (w1.heap.size) (Cur.cs d) rfl rfl 26 _ (heap_alloc_new w1 (Obj.cells #[iv 0, iv 0, .bool false, .bool false] 26)) (Cur.i26 _) (Cur.sz Cur.zero _) (Cur.one _) ?_; have K2 := below_setRow ((Below.refl w1.heap.size w1).alloc (Nat.le_refl _) (Obj.cells #[iv 0, iv 0, .bool false, .bool false] 26)) (g := w1.heap.size) (Nat.le_refl _) (Cur.cs d); have P2 := Lib.hid (bkBelow P1.out K2); have C2 := Lib.hid (bkBelow C1.out K2); have D2 := Lib.hid (D1.out.later K2); have B2 := bdT B1 B1.size K2; have E2 := Lib.hid (setRow_heap _ _ _ (Cur.cs d) _ _ (heap_alloc_new w1 (Obj.cells #[iv 0, iv 0, .bool false, .bool false] 26))); clear P1 C1 D1))
  have k3 := (bkCell E2.out 3).trans (show _ = some (.bool d.done) from rfl)
  have k0 := (bkCell E2.out 0).trans (show _ = some (iv d.pos) from rfl)
  cases hdn : d.done
  · rw [hdn] at k3
    have HX := Lib.hid hdn
    clear hdn
    go_wp2_with (first
      | (refine wpList_load_row rfl 24 (.tmp 4) rfl (w.heap.size) rfl 24 _ (0, 0) _ P2.out Try.underlying24 rfl (S.i24 _ _ _ _) ?_)
      | (go_at_call 111; (with_reducible refine (HC.out _ _ D2.out).mono ?_); rintro e w9 ⟨rfl, hb9⟩; have B9 := bdT B2 B2.size hb9))
    go_ret
    exact ⟨by unfold tapR; rw [HX.out]; rfl, B9⟩
  · rw [hdn] at k3
    have HX := Lib.hid hdn
    clear hdn
    go_wp2
    go_ret
    exact ⟨by unfold tapR; rw [HX.out]; rfl, B2⟩
theorem tapped_any (s : S) (A : Option Addr) (n c0 b o : Nat) (xs : Nat → Int) (c : Cur) (k : Int) (held : Bool) (hL : Loops s n) (hx : Frames s n xs) (hc : CurOk n c) (hk : -1000 ≤ k) (hk8 : k ≤ 8) (w : World) (hA : DataAt w A n b o xs) : Calls Try.prog 73 #[.agg (s.cs A n c0), .agg (Cur.cs c), iv k, .bool held] w fun e w' => e = .returned (iv (tapM s n xs c k held)) ∧ Below w.heap.size w w' := by
  obtain ⟨ps, fr, bk, dn⟩ := c
  cases dn
  · unfold CurOk at hc
    rw [if_neg (show ¬ (false = true) by decide)] at hc
    simp only at hc
    have e1 : tapM s n xs ⟨ps, fr, bk, false⟩ k held = if k ≤ 0 then hrd s n xs (if bk = true then ps - k else ps + k) else tapR s n xs (moveM s n ⟨ps, 0, bk, false⟩ (k * 65536) held) := by
      unfold tapM
      rw [if_neg (show ¬ (false = true) by decide)]
    rw [e1]
    by_cases h0 : k ≤ 0
    · rw [if_pos h0]
      exact tapped_low s A n c0 b o xs ps fr bk k held hx hL.1 ⟨hc.1, hc.2.1⟩ hk h0 w hA
    · rw [if_neg h0]
      exact tapped_high s A n c0 b o xs ps fr bk k held hL hx ⟨hc.1, hc.2.1⟩ (by omega) hk8 _ rfl w hA
  · exact tapped_done s A n c0 b o xs ps fr bk k held w
set_option maxHeartbeats 4000000 in
set_option maxRecDepth 100000 in
theorem rapplies_any (s : S) (A : Option Addr) (n c0 b o : Nat) (xs : Nat → Int) (held : Bool) (hn : n ≤ 9223372036854775807) (hc0 : n ≤ c0) (w : World) (hA : DataAt w A n b o xs) : Calls Try.prog 24 #[.agg (s.cs A n c0), .bool held] w fun e w' => e = .returned (.tuple #[iv (appA s n xs held).1, iv (appA s n xs held).2.1, iv (appA s n xs held).2.2]) ∧ Below w.heap.size w w' := by
  cases hv : vS s n xs
  · rw [show appA s n xs held = (0, 0, 0) from if_neg (by rw [hv]; decide)]
    have B0 : Below w.heap.size w (w.alloc (Obj.cells (s.cs A n c0) 24)) := (Below.refl _ _).alloc (Nat.le_refl _) _
    have P0 := Lib.hid (show (w.alloc (Obj.cells (s.cs A n c0) 24)).heap[w.heap.size]? = some (.cells (s.cs A n c0) 24 (0, 0)) from heap_alloc_new w _)
    have D0 := Lib.hid (hA.later B0)
    have VC := Lib.hid (show ∀ (W : World), DataAt W A n b o xs → Calls Try.prog 25 #[.agg (s.cs A n c0)] W fun e w' => e = .returned (.bool false) ∧ Below W.heap.size W w' from fun W h => by have := rvalid_any s A n c0 b o xs hn hc0 W h; rwa [hv] at this)
    clear hA hv
    go_enter Try.func24, Try.ntmps24
    go_wp2_with (first
      | (refine wpList_load_row rfl 24 (.tmp 2) rfl (w.heap.size) rfl 24 _ (0, 0) _ P0.out Try.underlying24 rfl (S.i24 _ _ _ _) ?_)
      | (go_at_call 25; (with_reducible refine (VC.out _ D0.out).mono ?_); rintro e w1 ⟨rfl, hb1⟩; have P1 := Lib.hid (bkBelow P0.out hb1); have D1 := Lib.hid (D0.out.later hb1); have B1 := bdT B0 B0.size hb1))
    go_ret3
    exact ⟨rfl, B1⟩
  · rw [show appA s n xs held = rgS s held from if_pos hv]
    have B0 : Below w.heap.size w (w.alloc (Obj.cells (s.cs A n c0) 24)) := (Below.refl _ _).alloc (Nat.le_refl _) _
    have P0 := Lib.hid (show (w.alloc (Obj.cells (s.cs A n c0) 24)).heap[w.heap.size]? = some (.cells (s.cs A n c0) 24 (0, 0)) from heap_alloc_new w _)
    have D0 := Lib.hid (hA.later B0)
    have VC := Lib.hid (show ∀ (W : World), DataAt W A n b o xs → Calls Try.prog 25 #[.agg (s.cs A n c0)] W fun e w' => e = .returned (.bool true) ∧ Below W.heap.size W w' from fun W h => by have := rvalid_any s A n c0 b o xs hn hc0 W h; rwa [hv] at this)
    have AC := Lib.hid fun (W : World) => ring_any s A n c0 held W
    clear hA hv
    go_enter Try.func24, Try.ntmps24
    go_wp2_with (first
      | (refine wpList_load_row rfl 24 (.tmp 2) rfl (w.heap.size) rfl 24 _ (0, 0) _ P0.out Try.underlying24 rfl (S.i24 _ _ _ _) ?_)
      | (go_at_call 25; (with_reducible refine (VC.out _ D0.out).mono ?_); rintro e w1 ⟨rfl, hb1⟩; have P1 := Lib.hid (bkBelow P0.out hb1); have D1 := Lib.hid (D0.out.later hb1); have B1 := bdT B0 B0.size hb1)
      | (refine wpList_load_row rfl 24 (.tmp 2) rfl (w.heap.size) rfl 24 _ (0, 0) _ P1.out Try.underlying24 rfl (S.i24 _ _ _ _) ?_)
      | (go_at_call 67; (with_reducible refine (AC.out _).mono ?_); rintro e w2 ⟨rfl, hb2⟩; have B2 := bdT B1 B1.size hb2))
    go_ret3
    exact ⟨rfl, B2⟩
set_option maxHeartbeats 4000000 in
set_option maxRecDepth 100000 in
theorem rmove_bad (s : S) (A : Option Addr) (n c0 b o : Nat) (xs : Nat → Int) (c : Cur) (step : Int) (held : Bool) (hv : vS s n xs = false) (hn : n ≤ 9223372036854775807) (hc0 : n ≤ c0) (w : World) (hA : DataAt w A n b o xs) : Calls Try.prog 19 #[.agg (s.cs A n c0), .agg (Cur.cs c), iv step, .bool held] w fun e w' => e = .returned (.tuple #[.agg (Cur.cs Cur.zero), iv 1]) ∧ Below w.heap.size w w' := by
  have H0 := Lib.hid (show (((w.alloc (Obj.cells (s.cs A n c0) 24)).alloc (Obj.cells (Cur.cs c) 26)).alloc (Obj.cells #[iv 0, iv 0, .bool false, .bool false] 26)).heap[w.heap.size + 1 + 1]? = some (.cells (Cur.cs Cur.zero) 26 (0, 0)) from al3C w _ _ _)
  have C0 := Lib.hid (show (((w.alloc (Obj.cells (s.cs A n c0) 24)).alloc (Obj.cells (Cur.cs c) 26)).alloc (Obj.cells #[iv 0, iv 0, .bool false, .bool false] 26)).heap[w.heap.size + 1]? = some (.cells (Cur.cs c) 26 (0, 0)) from al3B w _ _ _)
  have B0 : Below w.heap.size w (((w.alloc (Obj.cells (s.cs A n c0) 24)).alloc (Obj.cells (Cur.cs c) 26)).alloc (Obj.cells #[iv 0, iv 0, .bool false, .bool false] 26)) := (((Below.refl _ _).alloc (Nat.le_refl _) _).alloc (by simp) _).alloc (by simp; omega) _
  have P0 := Lib.hid (show (((w.alloc (Obj.cells (s.cs A n c0) 24)).alloc (Obj.cells (Cur.cs c) 26)).alloc (Obj.cells #[iv 0, iv 0, .bool false, .bool false] 26)).heap[w.heap.size]? = some (.cells (s.cs A n c0) 24 (0, 0)) from al3A w _ _ _)
  have D0 := Lib.hid (hA.later B0)
  have VC := Lib.hid (show ∀ (W : World), DataAt W A n b o xs → Calls Try.prog 25 #[.agg (s.cs A n c0)] W fun e w' => e = .returned (.bool false) ∧ Below W.heap.size W w' from fun W h => by have := rvalid_any s A n c0 b o xs hn hc0 W h; rwa [hv] at this)
  clear hA hv
  go_enter Try.func19, Try.ntmps19
  go_wp2_with (first
    | (refine wpList_load_row rfl 24 (.tmp 4) rfl (w.heap.size) rfl 24 _ (0, 0) _ P0.out Try.underlying24 rfl (S.i24 _ _ _ _) ?_)
    | (go_at_call 25; (with_reducible refine (VC.out _ D0.out).mono ?_); rintro e w1 ⟨rfl, hb1⟩; have P1 := Lib.hid (bkBelow P0.out hb1); have H1 := Lib.hid (bkBelow H0.out hb1); have C1 := Lib.hid (bkBelow C0.out hb1); have D1 := Lib.hid (D0.out.later hb1); have B1 := bdT B0 B0.size hb1)
    | (refine wpBuild0 rfl 26 rfl (Cur.cs Cur.zero) built26 ?_)
    | (refine wpList_store_row rfl 26 (.tmp 8) (.tmp 20) rfl (w.heap.size + 1 + 1) (Cur.cs Cur.zero) rfl rfl 26 _ H1.out (Cur.i26 _) (Cur.sz _ _) (Cur.one _) ?_))
  refine bodyPost_ret (res_cc rfl _ _ (w.heap.size + 1 + 1) _ rfl (setRow_heap _ _ _ _ _ _ H1.out)) rfl ⟨rfl, below_setRow B1 (by omega) _⟩
set_option maxHeartbeats 4000000 in
set_option maxRecDepth 100000 in
theorem rmove_off (s : S) (A : Option Addr) (n c0 b o : Nat) (xs : Nat → Int) (c : Cur) (step : Int) (held : Bool) (hv : vS s n xs = true) (hk : okB n c = false) (hn : n ≤ 9223372036854775807) (hc0 : n ≤ c0) (w : World) (hA : DataAt w A n b o xs) : Calls Try.prog 19 #[.agg (s.cs A n c0), .agg (Cur.cs c), iv step, .bool held] w fun e w' => e = .returned (.tuple #[.agg (Cur.cs Cur.zero), iv 1]) ∧ Below w.heap.size w w' := by
  have H0 := Lib.hid (show (((w.alloc (Obj.cells (s.cs A n c0) 24)).alloc (Obj.cells (Cur.cs c) 26)).alloc (Obj.cells #[iv 0, iv 0, .bool false, .bool false] 26)).heap[w.heap.size + 1 + 1]? = some (.cells (Cur.cs Cur.zero) 26 (0, 0)) from al3C w _ _ _)
  have C0 := Lib.hid (show (((w.alloc (Obj.cells (s.cs A n c0) 24)).alloc (Obj.cells (Cur.cs c) 26)).alloc (Obj.cells #[iv 0, iv 0, .bool false, .bool false] 26)).heap[w.heap.size + 1]? = some (.cells (Cur.cs c) 26 (0, 0)) from al3B w _ _ _)
  have B0 : Below w.heap.size w (((w.alloc (Obj.cells (s.cs A n c0) 24)).alloc (Obj.cells (Cur.cs c) 26)).alloc (Obj.cells #[iv 0, iv 0, .bool false, .bool false] 26)) := (((Below.refl _ _).alloc (Nat.le_refl _) _).alloc (by simp) _).alloc (by simp; omega) _
  have P0 := Lib.hid (show (((w.alloc (Obj.cells (s.cs A n c0) 24)).alloc (Obj.cells (Cur.cs c) 26)).alloc (Obj.cells #[iv 0, iv 0, .bool false, .bool false] 26)).heap[w.heap.size]? = some (.cells (s.cs A n c0) 24 (0, 0)) from al3A w _ _ _)
  have D0 := Lib.hid (hA.later B0)
  have VC := Lib.hid (show ∀ (W : World), DataAt W A n b o xs → Calls Try.prog 25 #[.agg (s.cs A n c0)] W fun e w' => e = .returned (.bool true) ∧ Below W.heap.size W w' from fun W h => by have := rvalid_any s A n c0 b o xs hn hc0 W h; rwa [hv] at this)
  have CC := Lib.hid (show ∀ (W : World), Calls Try.prog 63 #[.agg (s.cs A n c0), .agg (Cur.cs c)] W fun e w' => e = .returned (.bool false) ∧ Below W.heap.size W w' from fun W => by have := stands_any s A n c0 c W; rwa [hk] at this)
  clear hA hv hk
  go_enter Try.func19, Try.ntmps19
  go_wp2_with (first
    | (refine wpList_load_row rfl 24 (.tmp 4) rfl (w.heap.size) rfl 24 _ (0, 0) _ P0.out Try.underlying24 rfl (S.i24 _ _ _ _) ?_)
    | (go_at_call 25; (with_reducible refine (VC.out _ D0.out).mono ?_); rintro e w1 ⟨rfl, hb1⟩; have P1 := Lib.hid (bkBelow P0.out hb1); have H1 := Lib.hid (bkBelow H0.out hb1); have C1 := Lib.hid (bkBelow C0.out hb1); have D1 := Lib.hid (D0.out.later hb1); have B1 := bdT B0 B0.size hb1)
    | (refine gdOn (by rfl) ?_; refine wpList_load_row rfl 24 (.tmp 4) rfl (w.heap.size) rfl 24 _ (0, 0) _ P1.out Try.underlying24 rfl (S.i24 _ _ _ _) ?_)
    | (refine gdOn (by rfl) ?_; refine wpList_load_row rfl 26 (.tmp 5) rfl (w.heap.size + 1) rfl 26 _ (0, 0) _ C1.out Try.underlying26 rfl (Cur.i26 _) ?_)
    | (go_at_call 63; (with_reducible refine (CC.out _).mono ?_); rintro e w2 ⟨rfl, hb2⟩; have P2 := Lib.hid (bkBelow P1.out hb2); have C2 := Lib.hid (bkBelow C1.out hb2); have H2 := Lib.hid (bkBelow H1.out hb2); have D2 := Lib.hid (D1.out.later hb2); have B2 := bdT B1 B1.size hb2)
    | (refine wpBuild0 rfl 26 rfl (Cur.cs Cur.zero) built26 ?_)
    | (refine wpList_store_row rfl 26 (.tmp 8) (.tmp 20) rfl (w.heap.size + 1 + 1) (Cur.cs Cur.zero) rfl rfl 26 _ H2.out (Cur.i26 _) (Cur.sz _ _) (Cur.one _) ?_))
  refine bodyPost_ret (res_cc rfl _ _ (w.heap.size + 1 + 1) _ rfl (setRow_heap _ _ _ _ _ _ H2.out)) rfl ⟨rfl, below_setRow B2 (by omega) _⟩
set_option maxHeartbeats 4000000 in
set_option maxRecDepth 100000 in
theorem rmove_rnga (s : S) (A : Option Addr) (n c0 b o : Nat) (xs : Nat → Int) (c : Cur) (step : Int) (held : Bool) (hv : vS s n xs = true) (hk : okB n c = true) (hs : step < 0) (hn : n ≤ 9223372036854775807) (hc0 : n ≤ c0) (w : World) (hA : DataAt w A n b o xs) : Calls Try.prog 19 #[.agg (s.cs A n c0), .agg (Cur.cs c), iv step, .bool held] w fun e w' => e = .returned (.tuple #[.agg (Cur.cs Cur.zero), iv 5]) ∧ Below w.heap.size w w' := by
  have H0 := Lib.hid (show (((w.alloc (Obj.cells (s.cs A n c0) 24)).alloc (Obj.cells (Cur.cs c) 26)).alloc (Obj.cells #[iv 0, iv 0, .bool false, .bool false] 26)).heap[w.heap.size + 1 + 1]? = some (.cells (Cur.cs Cur.zero) 26 (0, 0)) from al3C w _ _ _)
  have C0 := Lib.hid (show (((w.alloc (Obj.cells (s.cs A n c0) 24)).alloc (Obj.cells (Cur.cs c) 26)).alloc (Obj.cells #[iv 0, iv 0, .bool false, .bool false] 26)).heap[w.heap.size + 1]? = some (.cells (Cur.cs c) 26 (0, 0)) from al3B w _ _ _)
  have B0 : Below w.heap.size w (((w.alloc (Obj.cells (s.cs A n c0) 24)).alloc (Obj.cells (Cur.cs c) 26)).alloc (Obj.cells #[iv 0, iv 0, .bool false, .bool false] 26)) := (((Below.refl _ _).alloc (Nat.le_refl _) _).alloc (by simp) _).alloc (by simp; omega) _
  have P0 := Lib.hid (show (((w.alloc (Obj.cells (s.cs A n c0) 24)).alloc (Obj.cells (Cur.cs c) 26)).alloc (Obj.cells #[iv 0, iv 0, .bool false, .bool false] 26)).heap[w.heap.size]? = some (.cells (s.cs A n c0) 24 (0, 0)) from al3A w _ _ _)
  have D0 := Lib.hid (hA.later B0)
  have VC := Lib.hid (show ∀ (W : World), DataAt W A n b o xs → Calls Try.prog 25 #[.agg (s.cs A n c0)] W fun e w' => e = .returned (.bool true) ∧ Below W.heap.size W w' from fun W h => by have := rvalid_any s A n c0 b o xs hn hc0 W h; rwa [hv] at this)
  have CC := Lib.hid (show ∀ (W : World), Calls Try.prog 63 #[.agg (s.cs A n c0), .agg (Cur.cs c)] W fun e w' => e = .returned (.bool true) ∧ Below W.heap.size W w' from fun W => by have := stands_any s A n c0 c W; rwa [hk] at this)
  have d0 : decide (step < 0) = true := decide_eq_true hs
  clear hA hv hk
  go_enter Try.func19, Try.ntmps19
  go_wp2_with (first
    | (refine wpList_load_row rfl 24 (.tmp 4) rfl (w.heap.size) rfl 24 _ (0, 0) _ P0.out Try.underlying24 rfl (S.i24 _ _ _ _) ?_)
    | (go_at_call 25; (with_reducible refine (VC.out _ D0.out).mono ?_); rintro e w1 ⟨rfl, hb1⟩; have P1 := Lib.hid (bkBelow P0.out hb1); have H1 := Lib.hid (bkBelow H0.out hb1); have C1 := Lib.hid (bkBelow C0.out hb1); have D1 := Lib.hid (D0.out.later hb1); have B1 := bdT B0 B0.size hb1)
    | (refine gdOn (by rfl) ?_; refine wpList_load_row rfl 24 (.tmp 4) rfl (w.heap.size) rfl 24 _ (0, 0) _ P1.out Try.underlying24 rfl (S.i24 _ _ _ _) ?_)
    | (refine gdOn (by rfl) ?_; refine wpList_load_row rfl 26 (.tmp 5) rfl (w.heap.size + 1) rfl 26 _ (0, 0) _ C1.out Try.underlying26 rfl (Cur.i26 _) ?_)
    | (go_at_call 63; (with_reducible refine (CC.out _).mono ?_); rintro e w2 ⟨rfl, hb2⟩; have P2 := Lib.hid (bkBelow P1.out hb2); have C2 := Lib.hid (bkBelow C1.out hb2); have H2 := Lib.hid (bkBelow H1.out hb2); have D2 := Lib.hid (D1.out.later hb2); have B2 := bdT B1 B1.size hb2)
    | (refine wpBuild0 rfl 26 rfl (Cur.cs Cur.zero) built26 ?_)
    | (refine wpList_store_row rfl 26 (.tmp 8) (.tmp 28) rfl (w.heap.size + 1 + 1) (Cur.cs Cur.zero) rfl rfl 26 _ H2.out (Cur.i26 _) (Cur.sz _ _) (Cur.one _) ?_))
  refine bodyPost_ret (res_cc rfl _ _ (w.heap.size + 1 + 1) _ rfl (setRow_heap _ _ _ _ _ _ H2.out)) rfl ⟨rfl, below_setRow B2 (by omega) _⟩
set_option maxHeartbeats 4000000 in
set_option maxRecDepth 100000 in
theorem rmove_rngb (s : S) (A : Option Addr) (n c0 b o : Nat) (xs : Nat → Int) (c : Cur) (step : Int) (held : Bool) (hv : vS s n xs = true) (hk : okB n c = true) (hs : 0 ≤ step) (hs1 : 268435456 < step) (hn : n ≤ 9223372036854775807) (hc0 : n ≤ c0) (w : World) (hA : DataAt w A n b o xs) : Calls Try.prog 19 #[.agg (s.cs A n c0), .agg (Cur.cs c), iv step, .bool held] w fun e w' => e = .returned (.tuple #[.agg (Cur.cs Cur.zero), iv 5]) ∧ Below w.heap.size w w' := by
  have H0 := Lib.hid (show (((w.alloc (Obj.cells (s.cs A n c0) 24)).alloc (Obj.cells (Cur.cs c) 26)).alloc (Obj.cells #[iv 0, iv 0, .bool false, .bool false] 26)).heap[w.heap.size + 1 + 1]? = some (.cells (Cur.cs Cur.zero) 26 (0, 0)) from al3C w _ _ _)
  have C0 := Lib.hid (show (((w.alloc (Obj.cells (s.cs A n c0) 24)).alloc (Obj.cells (Cur.cs c) 26)).alloc (Obj.cells #[iv 0, iv 0, .bool false, .bool false] 26)).heap[w.heap.size + 1]? = some (.cells (Cur.cs c) 26 (0, 0)) from al3B w _ _ _)
  have B0 : Below w.heap.size w (((w.alloc (Obj.cells (s.cs A n c0) 24)).alloc (Obj.cells (Cur.cs c) 26)).alloc (Obj.cells #[iv 0, iv 0, .bool false, .bool false] 26)) := (((Below.refl _ _).alloc (Nat.le_refl _) _).alloc (by simp) _).alloc (by simp; omega) _
  have P0 := Lib.hid (show (((w.alloc (Obj.cells (s.cs A n c0) 24)).alloc (Obj.cells (Cur.cs c) 26)).alloc (Obj.cells #[iv 0, iv 0, .bool false, .bool false] 26)).heap[w.heap.size]? = some (.cells (s.cs A n c0) 24 (0, 0)) from al3A w _ _ _)
  have D0 := Lib.hid (hA.later B0)
  have VC := Lib.hid (show ∀ (W : World), DataAt W A n b o xs → Calls Try.prog 25 #[.agg (s.cs A n c0)] W fun e w' => e = .returned (.bool true) ∧ Below W.heap.size W w' from fun W h => by have := rvalid_any s A n c0 b o xs hn hc0 W h; rwa [hv] at this)
  have CC := Lib.hid (show ∀ (W : World), Calls Try.prog 63 #[.agg (s.cs A n c0), .agg (Cur.cs c)] W fun e w' => e = .returned (.bool true) ∧ Below W.heap.size W w' from fun W => by have := stands_any s A n c0 c W; rwa [hk] at this)
  have d0 : decide (step < 0) = false := decide_eq_false (by omega)
  have d1 : decide (268435456 < step) = true := decide_eq_true hs1
  clear hA hv hk
  go_enter Try.func19, Try.ntmps19
  go_wp2_with (first
    | (refine wpList_load_row rfl 24 (.tmp 4) rfl (w.heap.size) rfl 24 _ (0, 0) _ P0.out Try.underlying24 rfl (S.i24 _ _ _ _) ?_)
    | (go_at_call 25; (with_reducible refine (VC.out _ D0.out).mono ?_); rintro e w1 ⟨rfl, hb1⟩; have P1 := Lib.hid (bkBelow P0.out hb1); have H1 := Lib.hid (bkBelow H0.out hb1); have C1 := Lib.hid (bkBelow C0.out hb1); have D1 := Lib.hid (D0.out.later hb1); have B1 := bdT B0 B0.size hb1)
    | (refine gdOn (by rfl) ?_; refine wpList_load_row rfl 24 (.tmp 4) rfl (w.heap.size) rfl 24 _ (0, 0) _ P1.out Try.underlying24 rfl (S.i24 _ _ _ _) ?_)
    | (refine gdOn (by rfl) ?_; refine wpList_load_row rfl 26 (.tmp 5) rfl (w.heap.size + 1) rfl 26 _ (0, 0) _ C1.out Try.underlying26 rfl (Cur.i26 _) ?_)
    | (go_at_call 63; (with_reducible refine (CC.out _).mono ?_); rintro e w2 ⟨rfl, hb2⟩; have P2 := Lib.hid (bkBelow P1.out hb2); have C2 := Lib.hid (bkBelow C1.out hb2); have H2 := Lib.hid (bkBelow H1.out hb2); have D2 := Lib.hid (D1.out.later hb2); have B2 := bdT B1 B1.size hb2)
    | (refine wpBuild0 rfl 26 rfl (Cur.cs Cur.zero) built26 ?_)
    | (refine wpList_store_row rfl 26 (.tmp 8) (.tmp 28) rfl (w.heap.size + 1 + 1) (Cur.cs Cur.zero) rfl rfl 26 _ H2.out (Cur.i26 _) (Cur.sz _ _) (Cur.one _) ?_))
  refine bodyPost_ret (res_cc rfl _ _ (w.heap.size + 1 + 1) _ rfl (setRow_heap _ _ _ _ _ _ H2.out)) rfl ⟨rfl, below_setRow B2 (by omega) _⟩
set_option maxHeartbeats 4000000 in
set_option maxRecDepth 100000 in
theorem rmove_ok (s : S) (A : Option Addr) (n c0 b o : Nat) (xs : Nat → Int) (c : Cur) (step : Int) (held : Bool) (hv : vS s n xs = true) (hk : okB n c = true) (hs : 0 ≤ step) (hs1 : step ≤ 268435456) (hn : n ≤ 9223372036854775807) (hc0 : n ≤ c0) (w : World) (hA : DataAt w A n b o xs) : Calls Try.prog 19 #[.agg (s.cs A n c0), .agg (Cur.cs c), iv step, .bool held] w fun e w' => e = .returned (.tuple #[.agg (Cur.cs (moveM s n c step held)), iv 0]) ∧ Below w.heap.size w w' := by
  have H0 := Lib.hid (show (((w.alloc (Obj.cells (s.cs A n c0) 24)).alloc (Obj.cells (Cur.cs c) 26)).alloc (Obj.cells #[iv 0, iv 0, .bool false, .bool false] 26)).heap[w.heap.size + 1 + 1]? = some (.cells (Cur.cs Cur.zero) 26 (0, 0)) from al3C w _ _ _)
  have C0 := Lib.hid (show (((w.alloc (Obj.cells (s.cs A n c0) 24)).alloc (Obj.cells (Cur.cs c) 26)).alloc (Obj.cells #[iv 0, iv 0, .bool false, .bool false] 26)).heap[w.heap.size + 1]? = some (.cells (Cur.cs c) 26 (0, 0)) from al3B w _ _ _)
  have B0 : Below w.heap.size w (((w.alloc (Obj.cells (s.cs A n c0) 24)).alloc (Obj.cells (Cur.cs c) 26)).alloc (Obj.cells #[iv 0, iv 0, .bool false, .bool false] 26)) := (((Below.refl _ _).alloc (Nat.le_refl _) _).alloc (by simp) _).alloc (by simp; omega) _
  have P0 := Lib.hid (show (((w.alloc (Obj.cells (s.cs A n c0) 24)).alloc (Obj.cells (Cur.cs c) 26)).alloc (Obj.cells #[iv 0, iv 0, .bool false, .bool false] 26)).heap[w.heap.size]? = some (.cells (s.cs A n c0) 24 (0, 0)) from al3A w _ _ _)
  have D0 := Lib.hid (hA.later B0)
  have VC := Lib.hid (show ∀ (W : World), DataAt W A n b o xs → Calls Try.prog 25 #[.agg (s.cs A n c0)] W fun e w' => e = .returned (.bool true) ∧ Below W.heap.size W w' from fun W h => by have := rvalid_any s A n c0 b o xs hn hc0 W h; rwa [hv] at this)
  have CC := Lib.hid (show ∀ (W : World), Calls Try.prog 63 #[.agg (s.cs A n c0), .agg (Cur.cs c)] W fun e w' => e = .returned (.bool true) ∧ Below W.heap.size W w' from fun W => by have := stands_any s A n c0 c W; rwa [hk] at this)
  have d0 : decide (step < 0) = false := decide_eq_false (by omega)
  have d1 : decide (268435456 < step) = false := decide_eq_false (by omega)
  have MC := Lib.hid fun (W : World) => gone_any s A n c0 c step held (vS_loops hv) (okB_iff.1 hk) hs hs1 W
  clear hA hv hk
  go_enter Try.func19, Try.ntmps19
  go_wp2_with (first
    | (refine wpList_load_row rfl 24 (.tmp 4) rfl (w.heap.size) rfl 24 _ (0, 0) _ P0.out Try.underlying24 rfl (S.i24 _ _ _ _) ?_)
    | (go_at_call 25; (with_reducible refine (VC.out _ D0.out).mono ?_); rintro e w1 ⟨rfl, hb1⟩; have P1 := Lib.hid (bkBelow P0.out hb1); have H1 := Lib.hid (bkBelow H0.out hb1); have C1 := Lib.hid (bkBelow C0.out hb1); have D1 := Lib.hid (D0.out.later hb1); have B1 := bdT B0 B0.size hb1)
    | (refine gdOn (by rfl) ?_; refine wpList_load_row rfl 24 (.tmp 4) rfl (w.heap.size) rfl 24 _ (0, 0) _ P1.out Try.underlying24 rfl (S.i24 _ _ _ _) ?_)
    | (refine gdOn (by rfl) ?_; refine wpList_load_row rfl 26 (.tmp 5) rfl (w.heap.size + 1) rfl 26 _ (0, 0) _ C1.out Try.underlying26 rfl (Cur.i26 _) ?_)
    | (go_at_call 63; (with_reducible refine (CC.out _).mono ?_); rintro e w2 ⟨rfl, hb2⟩; have P2 := Lib.hid (bkBelow P1.out hb2); have C2 := Lib.hid (bkBelow C1.out hb2); have H2 := Lib.hid (bkBelow H1.out hb2); have D2 := Lib.hid (D1.out.later hb2); have B2 := bdT B1 B1.size hb2)
    | (refine wpList_load_row rfl 24 (.tmp 4) rfl (w.heap.size) rfl 24 _ (0, 0) _ P2.out Try.underlying24 rfl (S.i24 _ _ _ _) ?_)
    | (refine wpList_load_row rfl 26 (.tmp 5) rfl (w.heap.size + 1) rfl 26 _ (0, 0) _ C2.out Try.underlying26 rfl (Cur.i26 _) ?_)
    | (go_at_call 64; (with_reducible refine (MC.out _).mono ?_); rintro e w3 ⟨rfl, hb3⟩; have H3 := Lib.hid (bkBelow H2.out hb3); have B3 := bdT B2 B2.size hb3)
    | (refine wpList_store_row rfl 26 (.tmp 8) (.tmp 33) rfl (w.heap.size + 1 + 1) (Cur.cs (moveM s n c step held)) rfl rfl 26 _ H3.out (Cur.i26 _) (Cur.sz _ _) (Cur.one _) ?_))
  refine bodyPost_ret (res_cc rfl _ _ (w.heap.size + 1 + 1) _ rfl (setRow_heap _ _ _ _ _ _ H3.out)) rfl ⟨rfl, below_setRow B3 (by omega) _⟩
theorem rmove_any (s : S) (A : Option Addr) (n c0 b o : Nat) (xs : Nat → Int) (c : Cur) (step : Int) (held : Bool) (hn : n ≤ 9223372036854775807) (hc0 : n ≤ c0) (w : World) (hA : DataAt w A n b o xs) : Calls Try.prog 19 #[.agg (s.cs A n c0), .agg (Cur.cs c), iv step, .bool held] w fun e w' => e = .returned (.tuple #[.agg (Cur.cs (moveA s n xs c step held).1), iv (moveA s n xs c step held).2]) ∧ Below w.heap.size w w' := by
  cases hv : vS s n xs
  · rw [show moveA s n xs c step held = (Cur.zero, 1) from if_neg (by rw [hv]; simp)]
    exact rmove_bad s A n c0 b o xs c step held hv hn hc0 w hA
  · cases hk : okB n c
    · rw [show moveA s n xs c step held = (Cur.zero, 1) from if_neg (by rw [hk]; simp)]
      exact rmove_off s A n c0 b o xs c step held hv hk hn hc0 w hA
    · have e : moveA s n xs c step held = if step < 0 ∨ 268435456 < step then (Cur.zero, 5) else (moveM s n c step held, 0) := if_pos ⟨hv, hk⟩
      rw [e]
      by_cases h0 : step < 0
      · rw [if_pos (.inl h0)]
        exact rmove_rnga s A n c0 b o xs c step held hv hk h0 hn hc0 w hA
      · by_cases h1 : 268435456 < step
        · rw [if_pos (.inr h1)]
          exact rmove_rngb s A n c0 b o xs c step held hv hk (by omega) h1 hn hc0 w hA
        · rw [if_neg (by omega)]
          exact rmove_ok s A n c0 b o xs c step held hv hk (by omega) (by omega) hn hc0 w hA
set_option maxHeartbeats 4000000 in
set_option maxRecDepth 100000 in
theorem rtap_bad (s : S) (A : Option Addr) (n c0 b o : Nat) (xs : Nat → Int) (c : Cur) (k : Int) (held : Bool) (hv : vS s n xs = false) (hn : n ≤ 9223372036854775807) (hc0 : n ≤ c0) (w : World) (hA : DataAt w A n b o xs) : Calls Try.prog 27 #[.agg (s.cs A n c0), .agg (Cur.cs c), iv k, .bool held] w fun e w' => e = .returned (iv 0) ∧ Below w.heap.size w w' := by
  have C0 := Lib.hid (show ((w.alloc (Obj.cells (s.cs A n c0) 24)).alloc (Obj.cells (Cur.cs c) 26)).heap[w.heap.size + 1]? = some (.cells (Cur.cs c) 26 (0, 0)) from heap_alloc2_new w _ _)
  have B0 : Below w.heap.size w ((w.alloc (Obj.cells (s.cs A n c0) 24)).alloc (Obj.cells (Cur.cs c) 26)) := ((Below.refl _ _).alloc (Nat.le_refl _) _).alloc (by simp) _
  have P0 := Lib.hid (show ((w.alloc (Obj.cells (s.cs A n c0) 24)).alloc (Obj.cells (Cur.cs c) 26)).heap[w.heap.size]? = some (.cells (s.cs A n c0) 24 (0, 0)) from heap_alloc2_old w _ _)
  have D0 := Lib.hid (hA.later B0)
  have VC := Lib.hid (show ∀ (W : World), DataAt W A n b o xs → Calls Try.prog 25 #[.agg (s.cs A n c0)] W fun e w' => e = .returned (.bool false) ∧ Below W.heap.size W w' from fun W h => by have := rvalid_any s A n c0 b o xs hn hc0 W h; rwa [hv] at this)
  clear hA hv
  go_enter Try.func27, Try.ntmps27
  go_wp2_with (first
    | (refine wpList_load_row rfl 24 (.tmp 4) rfl (w.heap.size) rfl 24 _ (0, 0) _ P0.out Try.underlying24 rfl (S.i24 _ _ _ _) ?_)
    | (go_at_call 25; (with_reducible refine (VC.out _ D0.out).mono ?_); rintro e w1 ⟨rfl, hb1⟩; have P1 := Lib.hid (bkBelow P0.out hb1); have C1 := Lib.hid (bkBelow C0.out hb1); have D1 := Lib.hid (D0.out.later hb1); have B1 := bdT B0 B0.size hb1))
  go_ret
  exact ⟨rfl, B1⟩
set_option maxHeartbeats 4000000 in
set_option maxRecDepth 100000 in
theorem rtap_off (s : S) (A : Option Addr) (n c0 b o : Nat) (xs : Nat → Int) (c : Cur) (k : Int) (held : Bool) (hv : vS s n xs = true) (hk : okB n c = false) (hn : n ≤ 9223372036854775807) (hc0 : n ≤ c0) (w : World) (hA : DataAt w A n b o xs) : Calls Try.prog 27 #[.agg (s.cs A n c0), .agg (Cur.cs c), iv k, .bool held] w fun e w' => e = .returned (iv 0) ∧ Below w.heap.size w w' := by
  have C0 := Lib.hid (show ((w.alloc (Obj.cells (s.cs A n c0) 24)).alloc (Obj.cells (Cur.cs c) 26)).heap[w.heap.size + 1]? = some (.cells (Cur.cs c) 26 (0, 0)) from heap_alloc2_new w _ _)
  have B0 : Below w.heap.size w ((w.alloc (Obj.cells (s.cs A n c0) 24)).alloc (Obj.cells (Cur.cs c) 26)) := ((Below.refl _ _).alloc (Nat.le_refl _) _).alloc (by simp) _
  have P0 := Lib.hid (show ((w.alloc (Obj.cells (s.cs A n c0) 24)).alloc (Obj.cells (Cur.cs c) 26)).heap[w.heap.size]? = some (.cells (s.cs A n c0) 24 (0, 0)) from heap_alloc2_old w _ _)
  have D0 := Lib.hid (hA.later B0)
  have VC := Lib.hid (show ∀ (W : World), DataAt W A n b o xs → Calls Try.prog 25 #[.agg (s.cs A n c0)] W fun e w' => e = .returned (.bool true) ∧ Below W.heap.size W w' from fun W h => by have := rvalid_any s A n c0 b o xs hn hc0 W h; rwa [hv] at this)
  have CC := Lib.hid (show ∀ (W : World), Calls Try.prog 63 #[.agg (s.cs A n c0), .agg (Cur.cs c)] W fun e w' => e = .returned (.bool false) ∧ Below W.heap.size W w' from fun W => by have := stands_any s A n c0 c W; rwa [hk] at this)
  clear hA hv hk
  go_enter Try.func27, Try.ntmps27
  go_wp2_with (first
    | (refine wpList_load_row rfl 24 (.tmp 4) rfl (w.heap.size) rfl 24 _ (0, 0) _ P0.out Try.underlying24 rfl (S.i24 _ _ _ _) ?_)
    | (go_at_call 25; (with_reducible refine (VC.out _ D0.out).mono ?_); rintro e w1 ⟨rfl, hb1⟩; have P1 := Lib.hid (bkBelow P0.out hb1); have C1 := Lib.hid (bkBelow C0.out hb1); have D1 := Lib.hid (D0.out.later hb1); have B1 := bdT B0 B0.size hb1)
    | (refine gdOn (by rfl) ?_; refine wpList_load_row rfl 24 (.tmp 4) rfl (w.heap.size) rfl 24 _ (0, 0) _ P1.out Try.underlying24 rfl (S.i24 _ _ _ _) ?_)
    | (refine gdOn (by rfl) ?_; refine wpList_load_row rfl 26 (.tmp 5) rfl (w.heap.size + 1) rfl 26 _ (0, 0) _ C1.out Try.underlying26 rfl (Cur.i26 _) ?_)
    | (go_at_call 63; (with_reducible refine (CC.out _).mono ?_); rintro e w2 ⟨rfl, hb2⟩; have P2 := Lib.hid (bkBelow P1.out hb2); have C2 := Lib.hid (bkBelow C1.out hb2); have D2 := Lib.hid (D1.out.later hb2); have B2 := bdT B1 B1.size hb2))
  go_ret
  exact ⟨rfl, B2⟩
set_option maxHeartbeats 4000000 in
set_option maxRecDepth 100000 in
theorem rtap_rnga (s : S) (A : Option Addr) (n c0 b o : Nat) (xs : Nat → Int) (c : Cur) (k : Int) (held : Bool) (hv : vS s n xs = true) (hk : okB n c = true) (hs : k < -8) (hn : n ≤ 9223372036854775807) (hc0 : n ≤ c0) (w : World) (hA : DataAt w A n b o xs) : Calls Try.prog 27 #[.agg (s.cs A n c0), .agg (Cur.cs c), iv k, .bool held] w fun e w' => e = .returned (iv 0) ∧ Below w.heap.size w w' := by
  have C0 := Lib.hid (show ((w.alloc (Obj.cells (s.cs A n c0) 24)).alloc (Obj.cells (Cur.cs c) 26)).heap[w.heap.size + 1]? = some (.cells (Cur.cs c) 26 (0, 0)) from heap_alloc2_new w _ _)
  have B0 : Below w.heap.size w ((w.alloc (Obj.cells (s.cs A n c0) 24)).alloc (Obj.cells (Cur.cs c) 26)) := ((Below.refl _ _).alloc (Nat.le_refl _) _).alloc (by simp) _
  have P0 := Lib.hid (show ((w.alloc (Obj.cells (s.cs A n c0) 24)).alloc (Obj.cells (Cur.cs c) 26)).heap[w.heap.size]? = some (.cells (s.cs A n c0) 24 (0, 0)) from heap_alloc2_old w _ _)
  have D0 := Lib.hid (hA.later B0)
  have VC := Lib.hid (show ∀ (W : World), DataAt W A n b o xs → Calls Try.prog 25 #[.agg (s.cs A n c0)] W fun e w' => e = .returned (.bool true) ∧ Below W.heap.size W w' from fun W h => by have := rvalid_any s A n c0 b o xs hn hc0 W h; rwa [hv] at this)
  have CC := Lib.hid (show ∀ (W : World), Calls Try.prog 63 #[.agg (s.cs A n c0), .agg (Cur.cs c)] W fun e w' => e = .returned (.bool true) ∧ Below W.heap.size W w' from fun W => by have := stands_any s A n c0 c W; rwa [hk] at this)
  have d0 : decide (k < -8) = true := decide_eq_true hs
  clear hA hv hk
  go_enter Try.func27, Try.ntmps27
  go_wp2_with (first
    | (refine wpList_load_row rfl 24 (.tmp 4) rfl (w.heap.size) rfl 24 _ (0, 0) _ P0.out Try.underlying24 rfl (S.i24 _ _ _ _) ?_)
    | (go_at_call 25; (with_reducible refine (VC.out _ D0.out).mono ?_); rintro e w1 ⟨rfl, hb1⟩; have P1 := Lib.hid (bkBelow P0.out hb1); have C1 := Lib.hid (bkBelow C0.out hb1); have D1 := Lib.hid (D0.out.later hb1); have B1 := bdT B0 B0.size hb1)
    | (refine gdOn (by rfl) ?_; refine wpList_load_row rfl 24 (.tmp 4) rfl (w.heap.size) rfl 24 _ (0, 0) _ P1.out Try.underlying24 rfl (S.i24 _ _ _ _) ?_)
    | (refine gdOn (by rfl) ?_; refine wpList_load_row rfl 26 (.tmp 5) rfl (w.heap.size + 1) rfl 26 _ (0, 0) _ C1.out Try.underlying26 rfl (Cur.i26 _) ?_)
    | (go_at_call 63; (with_reducible refine (CC.out _).mono ?_); rintro e w2 ⟨rfl, hb2⟩; have P2 := Lib.hid (bkBelow P1.out hb2); have C2 := Lib.hid (bkBelow C1.out hb2); have D2 := Lib.hid (D1.out.later hb2); have B2 := bdT B1 B1.size hb2))
  go_ret
  exact ⟨rfl, B2⟩
set_option maxHeartbeats 4000000 in
set_option maxRecDepth 100000 in
theorem rtap_rngb (s : S) (A : Option Addr) (n c0 b o : Nat) (xs : Nat → Int) (c : Cur) (k : Int) (held : Bool) (hv : vS s n xs = true) (hk : okB n c = true) (hs : -8 ≤ k) (hs1 : 8 < k) (hn : n ≤ 9223372036854775807) (hc0 : n ≤ c0) (w : World) (hA : DataAt w A n b o xs) : Calls Try.prog 27 #[.agg (s.cs A n c0), .agg (Cur.cs c), iv k, .bool held] w fun e w' => e = .returned (iv 0) ∧ Below w.heap.size w w' := by
  have C0 := Lib.hid (show ((w.alloc (Obj.cells (s.cs A n c0) 24)).alloc (Obj.cells (Cur.cs c) 26)).heap[w.heap.size + 1]? = some (.cells (Cur.cs c) 26 (0, 0)) from heap_alloc2_new w _ _)
  have B0 : Below w.heap.size w ((w.alloc (Obj.cells (s.cs A n c0) 24)).alloc (Obj.cells (Cur.cs c) 26)) := ((Below.refl _ _).alloc (Nat.le_refl _) _).alloc (by simp) _
  have P0 := Lib.hid (show ((w.alloc (Obj.cells (s.cs A n c0) 24)).alloc (Obj.cells (Cur.cs c) 26)).heap[w.heap.size]? = some (.cells (s.cs A n c0) 24 (0, 0)) from heap_alloc2_old w _ _)
  have D0 := Lib.hid (hA.later B0)
  have VC := Lib.hid (show ∀ (W : World), DataAt W A n b o xs → Calls Try.prog 25 #[.agg (s.cs A n c0)] W fun e w' => e = .returned (.bool true) ∧ Below W.heap.size W w' from fun W h => by have := rvalid_any s A n c0 b o xs hn hc0 W h; rwa [hv] at this)
  have CC := Lib.hid (show ∀ (W : World), Calls Try.prog 63 #[.agg (s.cs A n c0), .agg (Cur.cs c)] W fun e w' => e = .returned (.bool true) ∧ Below W.heap.size W w' from fun W => by have := stands_any s A n c0 c W; rwa [hk] at this)
  have d0 : decide (k < -8) = false := decide_eq_false (by omega)
  have d1 : decide (8 < k) = true := decide_eq_true hs1
  clear hA hv hk
  go_enter Try.func27, Try.ntmps27
  go_wp2_with (first
    | (refine wpList_load_row rfl 24 (.tmp 4) rfl (w.heap.size) rfl 24 _ (0, 0) _ P0.out Try.underlying24 rfl (S.i24 _ _ _ _) ?_)
    | (go_at_call 25; (with_reducible refine (VC.out _ D0.out).mono ?_); rintro e w1 ⟨rfl, hb1⟩; have P1 := Lib.hid (bkBelow P0.out hb1); have C1 := Lib.hid (bkBelow C0.out hb1); have D1 := Lib.hid (D0.out.later hb1); have B1 := bdT B0 B0.size hb1)
    | (refine gdOn (by rfl) ?_; refine wpList_load_row rfl 24 (.tmp 4) rfl (w.heap.size) rfl 24 _ (0, 0) _ P1.out Try.underlying24 rfl (S.i24 _ _ _ _) ?_)
    | (refine gdOn (by rfl) ?_; refine wpList_load_row rfl 26 (.tmp 5) rfl (w.heap.size + 1) rfl 26 _ (0, 0) _ C1.out Try.underlying26 rfl (Cur.i26 _) ?_)
    | (go_at_call 63; (with_reducible refine (CC.out _).mono ?_); rintro e w2 ⟨rfl, hb2⟩; have P2 := Lib.hid (bkBelow P1.out hb2); have C2 := Lib.hid (bkBelow C1.out hb2); have D2 := Lib.hid (D1.out.later hb2); have B2 := bdT B1 B1.size hb2))
  go_ret
  exact ⟨rfl, B2⟩
set_option maxHeartbeats 4000000 in
set_option maxRecDepth 100000 in
theorem rtap_ok (s : S) (A : Option Addr) (n c0 b o : Nat) (xs : Nat → Int) (c : Cur) (k : Int) (held : Bool) (hv : vS s n xs = true) (hk : okB n c = true) (hs : -8 ≤ k) (hs1 : k ≤ 8) (hn : n ≤ 9223372036854775807) (hc0 : n ≤ c0) (w : World) (hA : DataAt w A n b o xs) : Calls Try.prog 27 #[.agg (s.cs A n c0), .agg (Cur.cs c), iv k, .bool held] w fun e w' => e = .returned (iv (tapM s n xs c k held)) ∧ Below w.heap.size w w' := by
  have C0 := Lib.hid (show ((w.alloc (Obj.cells (s.cs A n c0) 24)).alloc (Obj.cells (Cur.cs c) 26)).heap[w.heap.size + 1]? = some (.cells (Cur.cs c) 26 (0, 0)) from heap_alloc2_new w _ _)
  have B0 : Below w.heap.size w ((w.alloc (Obj.cells (s.cs A n c0) 24)).alloc (Obj.cells (Cur.cs c) 26)) := ((Below.refl _ _).alloc (Nat.le_refl _) _).alloc (by simp) _
  have P0 := Lib.hid (show ((w.alloc (Obj.cells (s.cs A n c0) 24)).alloc (Obj.cells (Cur.cs c) 26)).heap[w.heap.size]? = some (.cells (s.cs A n c0) 24 (0, 0)) from heap_alloc2_old w _ _)
  have D0 := Lib.hid (hA.later B0)
  have VC := Lib.hid (show ∀ (W : World), DataAt W A n b o xs → Calls Try.prog 25 #[.agg (s.cs A n c0)] W fun e w' => e = .returned (.bool true) ∧ Below W.heap.size W w' from fun W h => by have := rvalid_any s A n c0 b o xs hn hc0 W h; rwa [hv] at this)
  have CC := Lib.hid (show ∀ (W : World), Calls Try.prog 63 #[.agg (s.cs A n c0), .agg (Cur.cs c)] W fun e w' => e = .returned (.bool true) ∧ Below W.heap.size W w' from fun W => by have := stands_any s A n c0 c W; rwa [hk] at this)
  have d0 : decide (k < -8) = false := decide_eq_false (by omega)
  have d1 : decide (8 < k) = false := decide_eq_false (by omega)
  have TC := Lib.hid fun (W : World) (hD : DataAt W A n b o xs) => tapped_any s A n c0 b o xs c k held (vS_loops hv) (vS_frames hv) (okB_iff.1 hk) (by omega) hs1 W hD
  clear hA hv hk
  go_enter Try.func27, Try.ntmps27
  go_wp2_with (first
    | (refine wpList_load_row rfl 24 (.tmp 4) rfl (w.heap.size) rfl 24 _ (0, 0) _ P0.out Try.underlying24 rfl (S.i24 _ _ _ _) ?_)
    | (go_at_call 25; (with_reducible refine (VC.out _ D0.out).mono ?_); rintro e w1 ⟨rfl, hb1⟩; have P1 := Lib.hid (bkBelow P0.out hb1); have C1 := Lib.hid (bkBelow C0.out hb1); have D1 := Lib.hid (D0.out.later hb1); have B1 := bdT B0 B0.size hb1)
    | (refine gdOn (by rfl) ?_; refine wpList_load_row rfl 24 (.tmp 4) rfl (w.heap.size) rfl 24 _ (0, 0) _ P1.out Try.underlying24 rfl (S.i24 _ _ _ _) ?_)
    | (refine gdOn (by rfl) ?_; refine wpList_load_row rfl 26 (.tmp 5) rfl (w.heap.size + 1) rfl 26 _ (0, 0) _ C1.out Try.underlying26 rfl (Cur.i26 _) ?_)
    | (go_at_call 63; (with_reducible refine (CC.out _).mono ?_); rintro e w2 ⟨rfl, hb2⟩; have P2 := Lib.hid (bkBelow P1.out hb2); have C2 := Lib.hid (bkBelow C1.out hb2); have D2 := Lib.hid (D1.out.later hb2); have B2 := bdT B1 B1.size hb2)
    | (refine wpList_load_row rfl 24 (.tmp 4) rfl (w.heap.size) rfl 24 _ (0, 0) _ P2.out Try.underlying24 rfl (S.i24 _ _ _ _) ?_)
    | (refine wpList_load_row rfl 26 (.tmp 5) rfl (w.heap.size + 1) rfl 26 _ (0, 0) _ C2.out Try.underlying26 rfl (Cur.i26 _) ?_)
    | (go_at_call 73; (with_reducible refine (TC.out _ D2.out).mono ?_); rintro e w3 ⟨rfl, hb3⟩; have B3 := bdT B2 B2.size hb3))
  go_ret
  exact ⟨rfl, B3⟩
theorem rtap_any (s : S) (A : Option Addr) (n c0 b o : Nat) (xs : Nat → Int) (c : Cur) (k : Int) (held : Bool) (hn : n ≤ 9223372036854775807) (hc0 : n ≤ c0) (w : World) (hA : DataAt w A n b o xs) : Calls Try.prog 27 #[.agg (s.cs A n c0), .agg (Cur.cs c), iv k, .bool held] w fun e w' => e = .returned (iv (tapA s n xs c k held)) ∧ Below w.heap.size w w' := by
  cases hv : vS s n xs
  · rw [show tapA s n xs c k held = 0 from if_neg (by rw [hv]; simp)]
    exact rtap_bad s A n c0 b o xs c k held hv hn hc0 w hA
  · cases hk : okB n c
    · rw [show tapA s n xs c k held = 0 from if_neg (by rw [hk]; simp)]
      exact rtap_off s A n c0 b o xs c k held hv hk hn hc0 w hA
    · by_cases h0 : k < -8
      · rw [show tapA s n xs c k held = 0 from if_neg (by omega)]
        exact rtap_rnga s A n c0 b o xs c k held hv hk h0 hn hc0 w hA
      · by_cases h1 : 8 < k
        · rw [show tapA s n xs c k held = 0 from if_neg (by omega)]
          exact rtap_rngb s A n c0 b o xs c k held hv hk (by omega) h1 hn hc0 w hA
        · have e : tapA s n xs c k held = tapM s n xs c k held := if_pos ⟨hv, hk, by omega, by omega⟩
          rw [e]
          exact rtap_ok s A n c0 b o xs c k held hv hk (by omega) (by omega) hn hc0 w hA
set_option maxHeartbeats 4000000 in
set_option maxRecDepth 100000 in
theorem rbegin_bad (s : S) (A : Option Addr) (n c0 b o : Nat) (xs : Nat → Int) (off : Int) (back : Bool) (ho : -9223372036854775808 ≤ off ∧ off ≤ 9223372036854775807) (hv : vS s n xs = false) (hn : n ≤ 9223372036854775807) (hc0 : n ≤ c0) (w : World) (hA : DataAt w A n b o xs) : Calls Try.prog 26 #[.agg (s.cs A n c0), iv off, .bool back] w fun e w' => e = .returned (.agg (Cur.cs Cur.over)) ∧ Below w.heap.size w w' := by
  have y1 : (s.cs A n c0)[1]? = some (.slice A n c0) := rfl
  have H0 := Lib.hid (show ((w.alloc (Obj.cells (s.cs A n c0) 24)).alloc (Obj.cells #[iv 0, iv 0, .bool false, .bool false] 26)).heap[w.heap.size + 1]? = some (.cells (Cur.cs Cur.zero) 26 (0, 0)) from heap_alloc2_new w _ _)
  have B0 : Below w.heap.size w ((w.alloc (Obj.cells (s.cs A n c0) 24)).alloc (Obj.cells #[iv 0, iv 0, .bool false, .bool false] 26)) := ((Below.refl _ _).alloc (Nat.le_refl _) _).alloc (by simp) _
  have P0 := Lib.hid (show ((w.alloc (Obj.cells (s.cs A n c0) 24)).alloc (Obj.cells #[iv 0, iv 0, .bool false, .bool false] 26)).heap[w.heap.size]? = some (.cells (s.cs A n c0) 24 (0, 0)) from heap_alloc2_old w _ _)
  have D0 := Lib.hid (hA.later B0)
  have VC := Lib.hid (show ∀ (W : World), DataAt W A n b o xs → Calls Try.prog 25 #[.agg (s.cs A n c0)] W fun e w' => e = .returned (.bool false) ∧ Below W.heap.size W w' from fun W h => by have := rvalid_any s A n c0 b o xs hn hc0 W h; rwa [hv] at this)
  have OQ := Lib.hid fun W' => over_any W'
  clear hA hv
  go_enter Try.func26, Try.ntmps26
  go_wp2_with (first
    | (refine wpList_load_row rfl 24 (.tmp 3) rfl (w.heap.size) rfl 24 _ (0, 0) _ P0.out Try.underlying24 rfl (S.i24 _ _ _ _) ?_)
    | (go_at_call 25; (with_reducible refine (VC.out _ D0.out).mono ?_); rintro e w1 ⟨rfl, hb1⟩; have P1 := Lib.hid (bkBelow P0.out hb1); have H1 := Lib.hid (bkBelow H0.out hb1); have D1 := Lib.hid (D0.out.later hb1); have B1 := bdT B0 B0.size hb1)
    | (go_at_call 71; (with_reducible refine (OQ.out _).mono ?_); rintro e w2 ⟨rfl, hb2⟩; have H2 := Lib.hid (bkBelow H1.out hb2); have B2 := bdT B1 B1.size hb2; clear H1)
    | (refine wpList_store_row rfl 26 (.tmp 6) (.tmp 23) rfl (w.heap.size + 1) (Cur.cs Cur.over) rfl rfl 26 _ H2.out (Cur.i26 _) (Cur.sz _ _) (Cur.one _) ?_))
  refine bodyPost_ret (results_cell_row rfl _ _ (w.heap.size + 1) 26 _ (0, 0) _ rfl (setRow_heap _ _ _ _ _ _ H2.out) Try.underlying26 rfl (Cur.i26 _)) rfl ⟨rfl, below_setRow B2 (by omega) _⟩
set_option maxHeartbeats 4000000 in
set_option maxRecDepth 100000 in
theorem rbegin_neg (s : S) (A : Option Addr) (n c0 b o : Nat) (xs : Nat → Int) (off : Int) (back : Bool) (ho : -9223372036854775808 ≤ off ∧ off ≤ 9223372036854775807) (hv : vS s n xs = true) (h0 : off < 0) (hn : n ≤ 9223372036854775807) (hc0 : n ≤ c0) (w : World) (hA : DataAt w A n b o xs) : Calls Try.prog 26 #[.agg (s.cs A n c0), iv off, .bool back] w fun e w' => e = .returned (.agg (Cur.cs Cur.over)) ∧ Below w.heap.size w w' := by
  have y1 : (s.cs A n c0)[1]? = some (.slice A n c0) := rfl
  have H0 := Lib.hid (show ((w.alloc (Obj.cells (s.cs A n c0) 24)).alloc (Obj.cells #[iv 0, iv 0, .bool false, .bool false] 26)).heap[w.heap.size + 1]? = some (.cells (Cur.cs Cur.zero) 26 (0, 0)) from heap_alloc2_new w _ _)
  have B0 : Below w.heap.size w ((w.alloc (Obj.cells (s.cs A n c0) 24)).alloc (Obj.cells #[iv 0, iv 0, .bool false, .bool false] 26)) := ((Below.refl _ _).alloc (Nat.le_refl _) _).alloc (by simp) _
  have P0 := Lib.hid (show ((w.alloc (Obj.cells (s.cs A n c0) 24)).alloc (Obj.cells #[iv 0, iv 0, .bool false, .bool false] 26)).heap[w.heap.size]? = some (.cells (s.cs A n c0) 24 (0, 0)) from heap_alloc2_old w _ _)
  have D0 := Lib.hid (hA.later B0)
  have VC := Lib.hid (show ∀ (W : World), DataAt W A n b o xs → Calls Try.prog 25 #[.agg (s.cs A n c0)] W fun e w' => e = .returned (.bool true) ∧ Below W.heap.size W w' from fun W h => by have := rvalid_any s A n c0 b o xs hn hc0 W h; rwa [hv] at this)
  have OQ := Lib.hid fun W' => over_any W'
  have d0 : decide (off < 0) = true := decide_eq_true h0
  clear hA hv
  go_enter Try.func26, Try.ntmps26
  go_wp2_with (first
    | (refine wpList_load_row rfl 24 (.tmp 3) rfl (w.heap.size) rfl 24 _ (0, 0) _ P0.out Try.underlying24 rfl (S.i24 _ _ _ _) ?_)
    | (go_at_call 25; (with_reducible refine (VC.out _ D0.out).mono ?_); rintro e w1 ⟨rfl, hb1⟩; have P1 := Lib.hid (bkBelow P0.out hb1); have H1 := Lib.hid (bkBelow H0.out hb1); have D1 := Lib.hid (D0.out.later hb1); have B1 := bdT B0 B0.size hb1)
    | (go_at_call 71; (with_reducible refine (OQ.out _).mono ?_); rintro e w2 ⟨rfl, hb2⟩; have H2 := Lib.hid (bkBelow H1.out hb2); have B2 := bdT B1 B1.size hb2; clear H1)
    | (refine wpList_store_row rfl 26 (.tmp 6) (.tmp 23) rfl (w.heap.size + 1) (Cur.cs Cur.over) rfl rfl 26 _ H2.out (Cur.i26 _) (Cur.sz _ _) (Cur.one _) ?_))
  refine bodyPost_ret (results_cell_row rfl _ _ (w.heap.size + 1) 26 _ (0, 0) _ rfl (setRow_heap _ _ _ _ _ _ H2.out) Try.underlying26 rfl (Cur.i26 _)) rfl ⟨rfl, below_setRow B2 (by omega) _⟩
set_option maxHeartbeats 4000000 in
set_option maxRecDepth 100000 in
theorem rbegin_big (s : S) (A : Option Addr) (n c0 b o : Nat) (xs : Nat → Int) (off : Int) (back : Bool) (ho : -9223372036854775808 ≤ off ∧ off ≤ 9223372036854775807) (hv : vS s n xs = true) (h0 : 0 ≤ off) (h1 : (n : Int) ≤ off) (hn : n ≤ 9223372036854775807) (hc0 : n ≤ c0) (w : World) (hA : DataAt w A n b o xs) : Calls Try.prog 26 #[.agg (s.cs A n c0), iv off, .bool back] w fun e w' => e = .returned (.agg (Cur.cs Cur.over)) ∧ Below w.heap.size w w' := by
  have y1 : (s.cs A n c0)[1]? = some (.slice A n c0) := rfl
  have H0 := Lib.hid (show ((w.alloc (Obj.cells (s.cs A n c0) 24)).alloc (Obj.cells #[iv 0, iv 0, .bool false, .bool false] 26)).heap[w.heap.size + 1]? = some (.cells (Cur.cs Cur.zero) 26 (0, 0)) from heap_alloc2_new w _ _)
  have B0 : Below w.heap.size w ((w.alloc (Obj.cells (s.cs A n c0) 24)).alloc (Obj.cells #[iv 0, iv 0, .bool false, .bool false] 26)) := ((Below.refl _ _).alloc (Nat.le_refl _) _).alloc (by simp) _
  have P0 := Lib.hid (show ((w.alloc (Obj.cells (s.cs A n c0) 24)).alloc (Obj.cells #[iv 0, iv 0, .bool false, .bool false] 26)).heap[w.heap.size]? = some (.cells (s.cs A n c0) 24 (0, 0)) from heap_alloc2_old w _ _)
  have D0 := Lib.hid (hA.later B0)
  have VC := Lib.hid (show ∀ (W : World), DataAt W A n b o xs → Calls Try.prog 25 #[.agg (s.cs A n c0)] W fun e w' => e = .returned (.bool true) ∧ Below W.heap.size W w' from fun W h => by have := rvalid_any s A n c0 b o xs hn hc0 W h; rwa [hv] at this)
  have OQ := Lib.hid fun W' => over_any W'
  have d0 : decide (off < 0) = false := decide_eq_false (by omega)
  have d1 : decide ((n : Int) ≤ off) = true := decide_eq_true h1
  clear hA hv
  go_enter Try.func26, Try.ntmps26
  go_wp2_with (first
    | (refine wpList_load_row rfl 24 (.tmp 3) rfl (w.heap.size) rfl 24 _ (0, 0) _ P0.out Try.underlying24 rfl (S.i24 _ _ _ _) ?_)
    | (go_at_call 25; (with_reducible refine (VC.out _ D0.out).mono ?_); rintro e w1 ⟨rfl, hb1⟩; have P1 := Lib.hid (bkBelow P0.out hb1); have H1 := Lib.hid (bkBelow H0.out hb1); have D1 := Lib.hid (D0.out.later hb1); have B1 := bdT B0 B0.size hb1)
    | (go_at_call 71; (with_reducible refine (OQ.out _).mono ?_); rintro e w2 ⟨rfl, hb2⟩; have H2 := Lib.hid (bkBelow H1.out hb2); have B2 := bdT B1 B1.size hb2; clear H1)
    | (refine wpList_store_row rfl 26 (.tmp 6) (.tmp 23) rfl (w.heap.size + 1) (Cur.cs Cur.over) rfl rfl 26 _ H2.out (Cur.i26 _) (Cur.sz _ _) (Cur.one _) ?_))
  refine bodyPost_ret (results_cell_row rfl _ _ (w.heap.size + 1) 26 _ (0, 0) _ rfl (setRow_heap _ _ _ _ _ _ H2.out) Try.underlying26 rfl (Cur.i26 _)) rfl ⟨rfl, below_setRow B2 (by omega) _⟩
set_option maxHeartbeats 4000000 in
set_option maxRecDepth 100000 in
theorem rbegin_f (s : S) (A : Option Addr) (n c0 b o : Nat) (xs : Nat → Int) (off : Int) (back : Bool) (ho : -9223372036854775808 ≤ off ∧ off ≤ 9223372036854775807) (hback : back = false) (hv : vS s n xs = true) (hn4 : n ≤ 4096) (h0 : 0 ≤ off) (h1 : off < (n : Int)) (hn : n ≤ 9223372036854775807) (hc0 : n ≤ c0) (w : World) (hA : DataAt w A n b o xs) : Calls Try.prog 26 #[.agg (s.cs A n c0), iv off, .bool back] w fun e w' => e = .returned (.agg (Cur.cs (stand (off * 65536, false, true)))) ∧ Below w.heap.size w w' := by
  have y1 : (s.cs A n c0)[1]? = some (.slice A n c0) := rfl
  have H0 := Lib.hid (show ((w.alloc (Obj.cells (s.cs A n c0) 24)).alloc (Obj.cells #[iv 0, iv 0, .bool false, .bool false] 26)).heap[w.heap.size + 1]? = some (.cells (Cur.cs Cur.zero) 26 (0, 0)) from heap_alloc2_new w _ _)
  have B0 : Below w.heap.size w ((w.alloc (Obj.cells (s.cs A n c0) 24)).alloc (Obj.cells #[iv 0, iv 0, .bool false, .bool false] 26)) := ((Below.refl _ _).alloc (Nat.le_refl _) _).alloc (by simp) _
  have P0 := Lib.hid (show ((w.alloc (Obj.cells (s.cs A n c0) 24)).alloc (Obj.cells #[iv 0, iv 0, .bool false, .bool false] 26)).heap[w.heap.size]? = some (.cells (s.cs A n c0) 24 (0, 0)) from heap_alloc2_old w _ _)
  have D0 := Lib.hid (hA.later B0)
  have VC := Lib.hid (show ∀ (W : World), DataAt W A n b o xs → Calls Try.prog 25 #[.agg (s.cs A n c0)] W fun e w' => e = .returned (.bool true) ∧ Below W.heap.size W w' from fun W h => by have := rvalid_any s A n c0 b o xs hn hc0 W h; rwa [hv] at this)
  have d0 : decide (off < 0) = false := decide_eq_false (by omega)
  have d1 : decide ((n : Int) ≤ off) = false := decide_eq_false (by omega)
  subst hback
  have f1 : wrap64 (off * 65536) = off * 65536 := wrap_in (by omega) (by omega)
  have AQ := Lib.hid fun W' => at_any (off * 65536) false (by omega) (by omega) W'
  clear hA hv
  go_enter Try.func26, Try.ntmps26
  go_wp2_with (first
    | (refine wpList_load_row rfl 24 (.tmp 3) rfl (w.heap.size) rfl 24 _ (0, 0) _ P0.out Try.underlying24 rfl (S.i24 _ _ _ _) ?_)
    | (go_at_call 25; (with_reducible refine (VC.out _ D0.out).mono ?_); rintro e w1 ⟨rfl, hb1⟩; have P1 := Lib.hid (bkBelow P0.out hb1); have H1 := Lib.hid (bkBelow H0.out hb1); have D1 := Lib.hid (D0.out.later hb1); have B1 := bdT B0 B0.size hb1)
    | (go_at_call 72; (with_reducible refine (AQ.out _).mono ?_); rintro e w2 ⟨rfl, hb2⟩; have H2 := Lib.hid (bkBelow H1.out hb2); have B2 := bdT B1 B1.size hb2; clear H1)
    | (refine wpList_store_row rfl 26 (.tmp 6) (.tmp 33) rfl (w.heap.size + 1) (Cur.cs (stand (off * 65536, false, true))) rfl rfl 26 _ H2.out (Cur.i26 _) (Cur.sz _ _) (Cur.one _) ?_))
  refine bodyPost_ret (results_cell_row rfl _ _ (w.heap.size + 1) 26 _ (0, 0) _ rfl (setRow_heap _ _ _ _ _ _ H2.out) Try.underlying26 rfl (Cur.i26 _)) rfl ⟨rfl, below_setRow B2 (by omega) _⟩
set_option maxHeartbeats 4000000 in
set_option maxRecDepth 100000 in
theorem rbegin_b (s : S) (A : Option Addr) (n c0 b o : Nat) (xs : Nat → Int) (off : Int) (back : Bool) (ho : -9223372036854775808 ≤ off ∧ off ≤ 9223372036854775807) (hback : back = true) (hv : vS s n xs = true) (hn4 : n ≤ 4096) (h0 : 0 ≤ off) (h1 : off < (n : Int)) (hn : n ≤ 9223372036854775807) (hc0 : n ≤ c0) (w : World) (hA : DataAt w A n b o xs) : Calls Try.prog 26 #[.agg (s.cs A n c0), iv off, .bool back] w fun e w' => e = .returned (.agg (Cur.cs (stand (((n : Int) - 1 - off) * 65536, true, true)))) ∧ Below w.heap.size w w' := by
  have y1 : (s.cs A n c0)[1]? = some (.slice A n c0) := rfl
  have H0 := Lib.hid (show ((w.alloc (Obj.cells (s.cs A n c0) 24)).alloc (Obj.cells #[iv 0, iv 0, .bool false, .bool false] 26)).heap[w.heap.size + 1]? = some (.cells (Cur.cs Cur.zero) 26 (0, 0)) from heap_alloc2_new w _ _)
  have B0 : Below w.heap.size w ((w.alloc (Obj.cells (s.cs A n c0) 24)).alloc (Obj.cells #[iv 0, iv 0, .bool false, .bool false] 26)) := ((Below.refl _ _).alloc (Nat.le_refl _) _).alloc (by simp) _
  have P0 := Lib.hid (show ((w.alloc (Obj.cells (s.cs A n c0) 24)).alloc (Obj.cells #[iv 0, iv 0, .bool false, .bool false] 26)).heap[w.heap.size]? = some (.cells (s.cs A n c0) 24 (0, 0)) from heap_alloc2_old w _ _)
  have D0 := Lib.hid (hA.later B0)
  have VC := Lib.hid (show ∀ (W : World), DataAt W A n b o xs → Calls Try.prog 25 #[.agg (s.cs A n c0)] W fun e w' => e = .returned (.bool true) ∧ Below W.heap.size W w' from fun W h => by have := rvalid_any s A n c0 b o xs hn hc0 W h; rwa [hv] at this)
  have d0 : decide (off < 0) = false := decide_eq_false (by omega)
  have d1 : decide ((n : Int) ≤ off) = false := decide_eq_false (by omega)
  subst hback
  have f1 : wrap64 ((n : Int) - 1) = (n : Int) - 1 := wrap_in (by omega) (by omega)
  have f2 : wrap64 ((n : Int) - 1 - off) = (n : Int) - 1 - off := wrap_in (by omega) (by omega)
  have f3 : wrap64 (((n : Int) - 1 - off) * 65536) = ((n : Int) - 1 - off) * 65536 := wrap_in (by omega) (by omega)
  have AQ := Lib.hid fun W' => at_any (((n : Int) - 1 - off) * 65536) true (by omega) (by omega) W'
  clear hA hv
  go_enter Try.func26, Try.ntmps26
  go_wp2_with (first
    | (refine wpList_load_row rfl 24 (.tmp 3) rfl (w.heap.size) rfl 24 _ (0, 0) _ P0.out Try.underlying24 rfl (S.i24 _ _ _ _) ?_)
    | (go_at_call 25; (with_reducible refine (VC.out _ D0.out).mono ?_); rintro e w1 ⟨rfl, hb1⟩; have P1 := Lib.hid (bkBelow P0.out hb1); have H1 := Lib.hid (bkBelow H0.out hb1); have D1 := Lib.hid (D0.out.later hb1); have B1 := bdT B0 B0.size hb1)
    | (go_at_call 72; (with_reducible refine (AQ.out _).mono ?_); rintro e w2 ⟨rfl, hb2⟩; have H2 := Lib.hid (bkBelow H1.out hb2); have B2 := bdT B1 B1.size hb2; clear H1)
    | (refine wpList_store_row rfl 26 (.tmp 6) (.tmp 30) rfl (w.heap.size + 1) (Cur.cs (stand (((n : Int) - 1 - off) * 65536, true, true))) rfl rfl 26 _ H2.out (Cur.i26 _) (Cur.sz _ _) (Cur.one _) ?_))
  refine bodyPost_ret (results_cell_row rfl _ _ (w.heap.size + 1) 26 _ (0, 0) _ rfl (setRow_heap _ _ _ _ _ _ H2.out) Try.underlying26 rfl (Cur.i26 _)) rfl ⟨rfl, below_setRow B2 (by omega) _⟩
theorem rbegin_any (s : S) (A : Option Addr) (n c0 b o : Nat) (xs : Nat → Int) (off : Int) (back : Bool) (ho : -9223372036854775808 ≤ off ∧ off ≤ 9223372036854775807) (hn : n ≤ 9223372036854775807) (hc0 : n ≤ c0) (w : World) (hA : DataAt w A n b o xs) : Calls Try.prog 26 #[.agg (s.cs A n c0), iv off, .bool back] w fun e w' => e = .returned (.agg (Cur.cs (beginA s n xs off back))) ∧ Below w.heap.size w w' := by
  cases hv : vS s n xs
  · rw [show beginA s n xs off back = Cur.over from if_neg (by rw [hv]; decide)]
    exact rbegin_bad s A n c0 b o xs off back ho hv hn hc0 w hA
  · rw [show beginA s n xs off back = begM n off back from if_pos hv]
    have hn4 := (vS_loops hv).1
    by_cases h0 : off < 0
    · rw [show begM n off back = Cur.over from if_pos (.inl h0)]
      exact rbegin_neg s A n c0 b o xs off back ho hv h0 hn hc0 w hA
    · by_cases h1 : (n : Int) ≤ off
      · rw [show begM n off back = Cur.over from if_pos (.inr h1)]
        exact rbegin_big s A n c0 b o xs off back ho hv (by omega) h1 hn hc0 w hA
      · have e0 : begM n off back = if back = true then ⟨n - 1 - off, 0, true, false⟩ else ⟨off, 0, false, false⟩ := if_neg (by omega)
        rw [e0]
        cases back
        · rw [if_neg (by decide), show (⟨off, 0, false, false⟩ : Cur) = stand (off * 65536, false, true) from by unfold stand; rw [if_pos rfl]; congr 1 <;> simp only <;> omega]
          exact rbegin_f s A n c0 b o xs off false ho rfl hv hn4 (by omega) (by omega) hn hc0 w hA
        · rw [if_pos rfl, show (⟨n - 1 - off, 0, true, false⟩ : Cur) = stand (((n : Int) - 1 - off) * 65536, true, true) from by unfold stand; rw [if_pos rfl]; congr 1 <;> simp only <;> omega]
          exact rbegin_b s A n c0 b o xs off true ho rfl hv hn4 (by omega) (by omega) hn hc0 w hA
end Go.Proofs.Ytnmoiolddfboiaa.SX

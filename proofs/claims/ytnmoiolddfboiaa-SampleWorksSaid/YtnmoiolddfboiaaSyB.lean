/- A sample turned round, as the reference does it. -/
import Derived.Test.YtnmoiolddfboiaaSxY
namespace Go.Proofs.Ytnmoiolddfboiaa.SX
open Go.RowKit Go.Proofs.YtnmoiolddfboiaaW.PrintLast Go.Proofs.Ytnmoiolddfboiaa.TX Go.Proofs.Ytnmoiolddfboiaa.Cu
set_option linter.unusedVariables false
set_option linter.unusedSimpArgs false
def rvF (n : Nat) (xs : Nat → Int) (j i : Nat) : Int := if n ≤ i + j then xs (n - 1 - i) else 0
theorem rvF_zero (n : Nat) (xs : Nat → Int) : rw_ (rvF n xs 0) n = rw_ (fun _ => 0) n := rw_congr fun i hi => if_neg (by omega)
theorem rvF_end (n : Nat) (xs : Nat → Int) : rw_ (rvF n xs n) n = rw_ (revF n xs) n := rw_congr fun i hi => if_pos (by omega)
theorem rvF_step (n : Nat) (xs : Nat → Int) {j m : Nat} (h : m + j + 1 = n) : rw_ (fun i => if i = m then xs j else rvF n xs j i) n = rw_ (rvF n xs (j + 1)) n := by
  refine rw_congr fun i hi => ?_
  unfold rvF
  by_cases e : i = m
  · subst e
    rw [if_pos rfl, if_pos (by omega), show n - 1 - i = j by omega]
  · rw [if_neg e]
    by_cases h : n ≤ i + j
    · rw [if_pos h, if_pos (by omega)]
    · rw [if_neg h, if_neg (by omega)]
set_option maxHeartbeats 16000000 in
set_option maxRecDepth 100000 in
theorem rrev_bad (s : S) (A : Option Addr) (n c0 b o : Nat) (xs : Nat → Int)  (hv : vS s n xs = false) (hn : n ≤ 9223372036854775807) (hc0 : n ≤ c0) (w : World) (hA : DataAt w A n b o xs) : Gives 35 #[.agg (s.cs A n c0)] w S.zero 0 (fun _ => 0) 1 := by
  unfold Gives
  have H0 := Lib.hid (show ((w.alloc (Obj.cells (s.cs A n c0) 24)).alloc (Obj.cells #[Value.string ⟨#[]⟩, Value.slice none 0 0, iv 0, iv 0, iv 0, iv 0, iv 0, iv 0, iv 0, iv 0, iv 0, iv 0, iv 0] 24)).heap[w.heap.size + 1]? = some (.cells (S.zero.cs none 0 0) 24 (0, 0)) from heap_alloc2_new w (Obj.cells (s.cs A n c0) 24) (Obj.cells #[Value.string ⟨#[]⟩, Value.slice none 0 0, iv 0, iv 0, iv 0, iv 0, iv 0, iv 0, iv 0, iv 0, iv 0, iv 0, iv 0] 24))
  have B0 : Below w.heap.size w ((w.alloc (Obj.cells (s.cs A n c0) 24)).alloc (Obj.cells #[Value.string ⟨#[]⟩, Value.slice none 0 0, iv 0, iv 0, iv 0, iv 0, iv 0, iv 0, iv 0, iv 0, iv 0, iv 0, iv 0] 24)) := ((Below.refl _ _).alloc (Nat.le_refl _) _).alloc (by simp) _
  have P0 := Lib.hid (show ((w.alloc (Obj.cells (s.cs A n c0) 24)).alloc (Obj.cells #[Value.string ⟨#[]⟩, Value.slice none 0 0, iv 0, iv 0, iv 0, iv 0, iv 0, iv 0, iv 0, iv 0, iv 0, iv 0, iv 0] 24)).heap[w.heap.size]? = some (.cells (s.cs A n c0) 24 (0, 0)) from heap_alloc2_old w _ _)
  have D0 := Lib.hid (hA.later B0)
  have VC := Lib.hid (show ∀ (W : World), DataAt W A n b o xs → Calls Try.prog 25 #[.agg (s.cs A n c0)] W fun e w' => e = .returned (.bool false) ∧ Below W.heap.size W w' from fun W h => by have := rvalid_any s A n c0 b o xs hn hc0 W h; rwa [hv] at this)
  clear hA hv
  go_enter Try.func35, Try.ntmps35
  go_wp2_with (first
    | (refine wpList_load_row rfl 24 (.tmp 1) rfl (w.heap.size) rfl 24 _ (0, 0) _ P0.out Try.underlying24 rfl (S.i24 _ _ _ _) ?_)
    | (go_at_call 25; (with_reducible refine (VC.out _ D0.out).mono ?_); rintro e w1 ⟨rfl, hb1⟩; have P1 := Lib.hid (bkBelow P0.out hb1); have H1 := Lib.hid (bkBelow H0.out hb1); have D1 := Lib.hid (D0.out.later hb1); have B1 := bdT B0 B0.size hb1)
    | (refine wpBuild0 rfl 24 rfl (S.zero.cs none 0 0) built24 ?_)
    | (refine wpList_store_row rfl 24 (.tmp 2) (.tmp 10) rfl (w.heap.size + 1) (S.zero.cs none 0 0) rfl rfl 24 _ H1.out (S.i24 _ _ _ _) (S.sz S.zero S.zero none none 0 0 0 0) (S.one _ _ _ _) ?_))
  refine bodyPost_ret (res_ct rfl _ _ (w.heap.size + 1) 24 _ (0, 0) _ rfl (setRow_heap _ _ _ _ _ _ H1.out) Try.underlying24 rfl (S.i24 _ _ _ _)) rfl ⟨none, 0, rfl, own0, below_setRow B1 (by omega) _⟩
theorem bkDrew {w : World} {g : Nat} {o : Obj} (h : w.heap[g]? = some o) : w.drew.heap[g]? = some o := h
set_option maxHeartbeats 16000000 in
set_option maxRecDepth 100000 in
theorem rrev_ok (s : S) (A : Option Addr) (n c0 b o : Nat) (xs : Nat → Int)  (hv : vS s n xs = true) (hn : n ≤ 9223372036854775807) (hc0 : n ≤ c0) (w : World) (hA : DataAt w A n b o xs) : Gives 35 #[.agg (s.cs A n c0)] w (revS s n) n (revF n xs) 0 := by
  unfold Gives
  have H0 := Lib.hid (show ((w.alloc (Obj.cells (s.cs A n c0) 24)).alloc (Obj.cells #[Value.string ⟨#[]⟩, Value.slice none 0 0, iv 0, iv 0, iv 0, iv 0, iv 0, iv 0, iv 0, iv 0, iv 0, iv 0, iv 0] 24)).heap[w.heap.size + 1]? = some (.cells (S.zero.cs none 0 0) 24 (0, 0)) from heap_alloc2_new w (Obj.cells (s.cs A n c0) 24) (Obj.cells #[Value.string ⟨#[]⟩, Value.slice none 0 0, iv 0, iv 0, iv 0, iv 0, iv 0, iv 0, iv 0, iv 0, iv 0, iv 0, iv 0] 24))
  have B0 : Below w.heap.size w ((w.alloc (Obj.cells (s.cs A n c0) 24)).alloc (Obj.cells #[Value.string ⟨#[]⟩, Value.slice none 0 0, iv 0, iv 0, iv 0, iv 0, iv 0, iv 0, iv 0, iv 0, iv 0, iv 0, iv 0] 24)) := ((Below.refl _ _).alloc (Nat.le_refl _) _).alloc (by simp) _
  have P0 := Lib.hid (show ((w.alloc (Obj.cells (s.cs A n c0) 24)).alloc (Obj.cells #[Value.string ⟨#[]⟩, Value.slice none 0 0, iv 0, iv 0, iv 0, iv 0, iv 0, iv 0, iv 0, iv 0, iv 0, iv 0, iv 0] 24)).heap[w.heap.size]? = some (.cells (s.cs A n c0) 24 (0, 0)) from heap_alloc2_old w _ _)
  have D0 := Lib.hid (hA.later B0)
  have VC := Lib.hid (show ∀ (W : World), DataAt W A n b o xs → Calls Try.prog 25 #[.agg (s.cs A n c0)] W fun e w' => e = .returned (.bool true) ∧ Below W.heap.size W w' from fun W h => by have := rvalid_any s A n c0 b o xs hn hc0 W h; rwa [hv] at this)
  obtain ⟨_, _, n4, _, _, _, l7, l10⟩ := vS_yes hv
  unfold LpOk at l7 l10
  have HN := Lib.hid n4
  obtain ⟨i0, hi, hz0, hz1, hz2⟩ := info_parts info3
  have HD := Lib.hid hA
  have e1 : wrap64 ((n : Int) - s.a9) = n - s.a9 := wrap_in (by omega) (by omega)
  have e2 : wrap64 ((n : Int) - s.a8) = n - s.a8 := wrap_in (by omega) (by omega)
  have e3 : wrap64 ((n : Int) - s.a12) = n - s.a12 := wrap_in (by omega) (by omega)
  have e4 : wrap64 ((n : Int) - s.a11) = n - s.a11 := wrap_in (by omega) (by omega)
  have HE := Lib.hid (And.intro e1 (And.intro e2 (And.intro e3 e4)))
  have l0 : (0 : Int) ≤ (n : Int) := by omega
  clear hA hv l7 l10 e1 e2 e3 e4
  go_enter Try.func35, Try.ntmps35
  go_upto_region 3 with (first
    | (refine wpList_load_row rfl 24 (.tmp 1) rfl (w.heap.size) rfl 24 _ (0, 0) _ P0.out Try.underlying24 rfl (S.i24 _ _ _ _) ?_)
    | (go_at_call 25; (with_reducible refine (VC.out _ D0.out).mono ?_); rintro e w1 ⟨rfl, hb1⟩; have P1 := Lib.hid (bkBelow P0.out hb1); have H1 := Lib.hid (bkBelow H0.out hb1); have D1 := Lib.hid (D0.out.later hb1); have B1 := bdT B0 B0.size hb1))
  have HP := Lib.hid (bkLt P1.out)
  have HH := Lib.hid (bkLt H1.out)
  have p1 := (bkCell P1.out 1).trans (show _ = some (Value.slice A n c0) from rfl)
  go_upto_region 4 with (fail)
  clear p1 D1
  go_upto_region 5 with (first
    | (refine wpList_load_row rfl 24 (.tmp 1) rfl (w.heap.size) rfl 24 _ (0, 0) _ P1.out Try.underlying24 rfl (S.i24 _ _ _ _) ?_)
    | (refine wpList_store_row rfl 24 (.tmp 5) (.tmp 14) rfl (w1.heap.size) (s.cs A n c0) rfl rfl 24 _ (heap_alloc_new w1 (Obj.cells #[Value.string ⟨#[]⟩, Value.slice none 0 0, iv 0, iv 0, iv 0, iv 0, iv 0, iv 0, iv 0, iv 0, iv 0, iv 0, iv 0] 24)) (S.i24 _ _ _ _) (S.sz S.zero s none _ 0 0 _ _) (S.one _ _ _ _) ?_; have K2 := below_setRow ((Below.refl w1.heap.size w1).alloc (Nat.le_refl _) (Obj.cells #[Value.string ⟨#[]⟩, Value.slice none 0 0, iv 0, iv 0, iv 0, iv 0, iv 0, iv 0, iv 0, iv 0, iv 0, iv 0, iv 0] 24)) (g := w1.heap.size) (Nat.le_refl _) (s.cs A n c0); have P2 := Lib.hid (bkBelow P1.out K2); have H2 := Lib.hid (bkBelow H1.out K2); have B2 := bdT B1 B1.size K2; have T2 := Lib.hid (setRow_heap _ _ _ (s.cs A n c0) _ _ (heap_alloc_new w1 (Obj.cells #[Value.string ⟨#[]⟩, Value.slice none 0 0, iv 0, iv 0, iv 0, iv 0, iv 0, iv 0, iv 0, iv 0, iv 0, iv 0, iv 0] 24))); clear P1 H1))
  have SZ : ((w1.alloc (Obj.cells #[Value.string ⟨#[]⟩, Value.slice none 0 0, iv 0, iv 0, iv 0, iv 0, iv 0, iv 0, iv 0, iv 0, iv 0, iv 0, iv 0] 24)).setRow w1.heap.size (s.cs A n c0)).heap.size = w1.heap.size + 1 := by simp
  generalize (w1.alloc (Obj.cells #[Value.string ⟨#[]⟩, Value.slice none 0 0, iv 0, iv 0, iv 0, iv 0, iv 0, iv 0, iv 0, iv 0, iv 0, iv 0, iv 0] 24)).setRow w1.heap.size (s.cs A n c0) = w2 at *
  have HS := Lib.hid SZ
  clear SZ
  go_upto_region 6 with (at_make; refine wpList_make_full _ rfl _ _ 22 rfl w2.heap.size 3 i0 (.int .i64 0) 1 Try.underlying22 hi hz0 hz1 .i64 .i64 _ _ n rfl rfl rfl rfl (by rw [hz2]; have := HN.out; omega) (by unfold maxLen; have := HN.out; omega) (Nat.le_refl _) ?_; intro w3 hown hgrow; have K3 : Below w2.heap.size w2 w3 := (Below.refl _ _).grown hgrow (Nat.le_refl _) (by simp); have P3 := Lib.hid (bkBelow P2.out K3); have H3 := Lib.hid (bkBelow H2.out K3); have T3 := Lib.hid (bkBelow T2.out K3); have O3 := Lib.hid hown; have B3 := bdT B2 B2.size K3; have t1 := (bkCell T3.out 1).trans (show _ = some (Value.slice A n c0) from rfl); have u1 := bkFrozen T3.out 1; clear hown hgrow K3)
  have P4 := Lib.hid (bkFar P3.out (p := ⟨w1.heap.size, 1, none⟩) (by have := HP.out; simp; omega) (.slice (some ⟨w2.heap.size, 0, none⟩) n n))
  have H4 := Lib.hid (bkFar H3.out (p := ⟨w1.heap.size, 1, none⟩) (by have := HH.out; simp; omega) (.slice (some ⟨w2.heap.size, 0, none⟩) n n))
  have T4 := Lib.hid (bkPut T3.out 1 (.slice (some ⟨w2.heap.size, 0, none⟩) n n) (S.set1 s A (some ⟨w2.heap.size, 0, none⟩) n c0 n n))
  have O4 := Lib.hid (ownVC O3.out (p := ⟨w1.heap.size, 1, none⟩) (by have := HS.out; simp; omega) (.slice (some ⟨w2.heap.size, 0, none⟩) n n))
  have B4 := B3.setCell (p := ⟨w1.heap.size, 1, none⟩) (Nat.le_of_lt HP.out) (.slice (some ⟨w2.heap.size, 0, none⟩) n n)
  clear t1 u1 P3 H3 T3 O3 B3 P2 H2 T2 B2
  go_upto_region 7 with (fail)
  go_loopw [6] (fun v wr => ∃ j : Nat, j ≤ n ∧ v = iv j ∧ wr.heap[w.heap.size]? = some (.cells (s.cs A n c0) 24 (0, 0)) ∧ wr.heap[w.heap.size + 1]? = some (.cells (S.zero.cs none 0 0) 24 (0, 0)) ∧ wr.heap[w1.heap.size]? = some (.cells (s.cs (some ⟨w2.heap.size, 0, none⟩) n n) 24 (0, 0)) ∧ wr.ownsRow w2.heap.size 3 1 (.slice (some ⟨w2.heap.size, 0, none⟩) n n) n (rw_ (rvF n xs j) n) ∧ Below w.heap.size w wr) (fun v _ => n - (intOf v).toNat)
  case atStart => exact ⟨0, by omega, rfl, P4.out, H4.out, T4.out, ownN O4.out (by rw [rvF_zero, rw_zero]; first | rfl | (rw [Nat.mul_one]; exact toList_madeCells_one _ _)), B4⟩
  case round =>
    clear P4 H4 T4 O4 B4
    obtain ⟨j, hj, rfl, hP, hH, hT, hO, hB⟩ := hrel
    have NP := Lib.hid hP
    have NH := Lib.hid hH
    have NT := Lib.hid hT
    have NO := Lib.hid hO
    have l3 : (0 : Int) ≤ (j : Int) := by omega
    clear hP hH hT hO
    by_cases hlt : j < n
    · have l4 : (j : Int) < (n : Int) := by omega
      have tA := HD.out.top (by omega)
      subst tA
      have c4 := (HD.out.later hB).cell j hlt
      obtain ⟨m, hm⟩ : ∃ m, m + j + 1 = n := ⟨n - 1 - j, by omega⟩
      have s4 : wr.cell? ⟨w2.heap.size, m, none⟩ = some (iv (rvF n xs j m)) := (NO.out.cellAt m (by omega)).trans (rw_at _ n m (by omega))
      have f1 : wrap64 ((n : Int) - 1) = n - 1 := wrap_in (by have := HN.out; omega) (by have := HN.out; omega)
      have f2 : wrap64 ((n : Int) - 1 - j) = (m : Int) := (wrap_in (by have := HN.out; omega) (by have := HN.out; omega)).trans (by omega)
      have m1 : (0 : Int) ≤ (m : Int) := by omega
      have m2 : (m : Int) < (n : Int) := by omega
      have HM := Lib.hid hm
      clear hm
      go_upto_region 9 with (fail)
      have HF := Lib.hid (And.intro f1 f2)
      refine start_ (n := 13) (S := fun w' => w'.heap[w.heap.size]? = some (.cells (s.cs (some ⟨b, o, none⟩) n c0) 24 (0, 0)) ∧ w'.heap[w.heap.size + 1]? = some (.cells (S.zero.cs none 0 0) 24 (0, 0)) ∧ w'.heap[w1.heap.size]? = some (.cells (s.cs (some ⟨w2.heap.size, 0, none⟩) n n) 24 (0, 0)) ∧ w'.cell? ⟨w2.heap.size, m, none⟩ = some (iv (rvF n xs j m)) ∧ w'.ownsRow w2.heap.size 3 1 (.slice (some ⟨w2.heap.size, 0, none⟩) n n) n (rw_ (rvF n xs j) n) ∧ Below w.heap.size w w' ∧ w'.cell? ⟨b, o + j, none⟩ = some (iv (xs j))) (ds := [12]) #[false, false, false, false, false, false, false, false, false, false, false, false, false] (by kernel_rfl) rfl rfl ⟨NP.out, NH.out, NT.out, s4, NO.out.drew, hB.drew, c4⟩ (fun hHeld => ?_)
      refine pure_ (i := 0) (N := some 23) (v := ?_) (a' := ?_) #[true, false, false, false, false, false, false, false, false, false, false, false, false] rfl rfl (by kernel_rfl) (fun _ _ _ h => h) (Or.inl ⟨by rfl, ?_⟩) ?_ ?_
      rotate_left
      · intro w'
        go_simp
        with_reducible rfl
      rotate_left
      · simp only [Act.put, List.setIfInBounds_toArray, List.set_cons_zero, List.set_cons_succ, i64_w, i32_w, f1, f2]
        rfl
      refine pure_ (i := 2) (N := some 25) (v := ?_) (a' := ?_) #[true, false, true, false, false, false, false, false, false, false, false, false, false] rfl rfl (by kernel_rfl) (fun _ _ _ h => h) (Or.inl ⟨by rfl, ?_⟩) ?_ ?_
      rotate_left
      · intro w'
        go_simp
        with_reducible rfl
      rotate_left
      · simp only [Act.put, List.setIfInBounds_toArray, List.set_cons_zero, List.set_cons_succ, i64_w, i32_w, f1, f2]
        rfl
      refine pure_ (i := 3) (N := some 26) (v := ?_) (a' := ?_) #[true, false, true, true, false, false, false, false, false, false, false, false, false] rfl rfl (by kernel_rfl) (fun _ _ _ h => h) (Or.inl ⟨by rfl, ?_⟩) ?_ ?_
      rotate_left
      · intro w'
        go_simp
        with_reducible rfl
      rotate_left
      · simp only [Act.put, List.setIfInBounds_toArray, List.set_cons_zero, List.set_cons_succ, i64_w, i32_w, f1, f2]
        rfl
      refine pure_ (i := 4) (N := some 27) (v := ?_) (a' := ?_) #[true, false, true, true, true, false, false, false, false, false, false, false, false] rfl rfl (by kernel_rfl) (fun _ _ _ h => h) (Or.inl ⟨by rfl, ?_⟩) ?_ ?_
      rotate_left
      · intro w'
        go_simp
        with_reducible rfl
      rotate_left
      · simp only [Act.put, List.setIfInBounds_toArray, List.set_cons_zero, List.set_cons_succ, i64_w, i32_w, f1, f2]
        rfl
      refine pure_ (i := 5) (N := some 28) (v := ?_) (a' := ?_) #[true, false, true, true, true, true, false, false, false, false, false, false, false] rfl rfl (by kernel_rfl) (fun _ _ _ h => h) (Or.inl ⟨by rfl, ?_⟩) ?_ ?_
      rotate_left
      · intro w'
        go_simp
        with_reducible rfl
      rotate_left
      · simp only [Act.put, List.setIfInBounds_toArray, List.set_cons_zero, List.set_cons_succ, i64_w, i32_w, f1, f2]
        rfl
      refine pure_ (i := 6) (N := some 29) (v := ?_) (a' := ?_) #[true, false, true, true, true, true, true, false, false, false, false, false, false] rfl rfl (by kernel_rfl) (fun _ _ _ h => h) (Or.inl ⟨by rfl, ?_⟩) ?_ ?_
      rotate_left
      · intro w'
        go_simp
        with_reducible rfl
      rotate_left
      · simp only [Act.put, List.setIfInBounds_toArray, List.set_cons_zero, List.set_cons_succ, i64_w, i32_w, f1, f2]
        rfl
      refine pure_ (i := 8) (N := some 31) (v := ?_) (a' := ?_) #[true, false, true, true, true, true, true, false, true, false, false, false, false] rfl rfl (by kernel_rfl) (fun _ _ _ h => h) (Or.inl ⟨by rfl, ?_⟩) ?_ ?_
      rotate_left
      · intro w'
        go_simp
        with_reducible rfl
      rotate_left
      · simp only [Act.put, List.setIfInBounds_toArray, List.set_cons_zero, List.set_cons_succ, i64_w, i32_w, f1, f2]
        rfl
      refine take_ (i := 1) (N := some 24) (v := ?_) (a' := ?_) #[true, true, true, true, true, true, true, false, true, false, false, false, false] rfl rfl (by kernel_rfl) (fun _ _ _ h => h) (Or.inl ⟨by rfl, ?_⟩) hHeld ?_ ?_
      rotate_left
      · rintro w' ⟨s0, s1, s2, s3, s4, s5, s6⟩
        have q1 := (bkCell s2 1).trans (show _ = some (Value.slice (some ⟨w2.heap.size, 0, none⟩) n n) from rfl)
        clear s0 s1 s2 s3 s4 s5 s6
        go_simp
        with_reducible rfl
      rotate_left
      · simp only [Act.put, List.setIfInBounds_toArray, List.set_cons_zero, List.set_cons_succ, i64_w, i32_w, f1, f2]
        rfl
      refine take_ (i := 7) (N := some 30) (v := ?_) (a' := ?_) #[true, true, true, true, true, true, true, true, true, false, false, false, false] rfl rfl (by kernel_rfl) (fun _ _ _ h => h) (Or.inl ⟨by rfl, ?_⟩) hHeld ?_ ?_
      rotate_left
      · rintro w' ⟨s0, s1, s2, s3, s4, s5, s6⟩
        have q1 := (bkCell s0 1).trans (show _ = some (Value.slice (some ⟨b, o, none⟩) n c0) from rfl)
        clear s0 s1 s2 s3 s4 s5 s6
        go_simp
        with_reducible rfl
      rotate_left
      · simp only [Act.put, List.setIfInBounds_toArray, List.set_cons_zero, List.set_cons_succ, i64_w, i32_w, f1, f2]
        rfl
      refine pure_ (i := 9) (N := some 32) (v := ?_) (a' := ?_) #[true, true, true, true, true, true, true, true, true, true, false, false, false] rfl rfl (by kernel_rfl) (fun _ _ _ h => h) (Or.inl ⟨by rfl, ?_⟩) ?_ ?_
      rotate_left
      · intro w'
        go_simp
        with_reducible rfl
      rotate_left
      · simp only [Act.put, List.setIfInBounds_toArray, List.set_cons_zero, List.set_cons_succ, i64_w, i32_w, f1, f2]
        rfl
      refine take_ (i := 10) (N := some 33) (v := ?_) (a' := ?_) #[true, true, true, true, true, true, true, true, true, true, true, false, false] rfl rfl (by kernel_rfl) (fun _ _ _ h => h) (Or.inl ⟨by rfl, ?_⟩) hHeld ?_ ?_
      rotate_left
      · rintro w' ⟨s0, s1, s2, s3, s4, s5, s6⟩
        clear s0 s1 s2 s3 s4 s5
        go_simp
        with_reducible rfl
      rotate_left
      · simp only [Act.put, List.setIfInBounds_toArray, List.set_cons_zero, List.set_cons_succ, i64_w, i32_w, f1, f2]
        rfl
      refine pure_ (i := 11) (N := some 34) (v := ?_) (a' := ?_) #[true, true, true, true, true, true, true, true, true, true, true, true, false] rfl rfl (by kernel_rfl) (fun _ _ _ h => h) (Or.inl ⟨by rfl, ?_⟩) ?_ ?_
      rotate_left
      · intro w'
        go_simp
        with_reducible rfl
      rotate_left
      · simp only [Act.put, List.setIfInBounds_toArray, List.set_cons_zero, List.set_cons_succ, i64_w, i32_w, f1, f2]
        rfl
      refine last_ (i := 12) (N := none) #[true, true, true, true, true, true, true, true, true, true, true, true, true] rfl rfl (by kernel_rfl) (by decide) (fun K hK => ?_)
      obtain ⟨P5, H5, T5, s5, O5, B5, _⟩ := hHeld
      have z5 := O5.frozenAt m
      have N5 := Lib.hid (And.intro P5 (And.intro H5 (And.intro T5 (And.intro O5 B5))))
      clear P5 H5 T5 O5 B5
      refine skip_ (w1 := ?_) (by rfl) rfl ?_ ?_
      rotate_left
      · go_simp
        rfl
      refine hK.out _ _ ?_
      clear hK K
      refine done_ (by kernel_rfl) ?_
      have hsz := HS.out
      have hP := HP.out
      have hH := HH.out
      obtain ⟨P6, H6, T6, O6, B6⟩ := N5.out
      have P7 := Lib.hid (bkFar P6 (p := ⟨w2.heap.size, m, none⟩) (by simp; omega) (iv (xs j)))
      have H7 := Lib.hid (bkFar H6 (p := ⟨w2.heap.size, m, none⟩) (by simp; omega) (iv (xs j)))
      have T7 := Lib.hid (bkFar T6 (p := ⟨w2.heap.size, m, none⟩) (by simp; omega) (iv (xs j)))
      have O7 := Lib.hid (ownN (O6.stored m (iv (xs j))).1 ((rw_set _ n m _).trans (rvF_step n xs HM.out)))
      have B7 := B6.setCell (p := ⟨w2.heap.size, m, none⟩) (by simp; omega) (iv (xs j))
      clear P6 H6 T6 O6 B6 hsz hP hH
      go_wp2
      exact ⟨⟨j + 1, by omega, by go_num, P7.out, H7.out, T7.out, O7.out, B7⟩, by simp [intOf]; omega⟩
    · obtain rfl : j = n := by omega
      obtain ⟨e1, e2, e3, e4⟩ := HE.out
      go_upto_region 10 with (fail)
      have P1 := NP
      have H1 := NH
      have T1 := NT
      have O1 := Lib.hid (ownN NO.out (rvF_end j xs))
      have B1 := hB
      by_cases h7 : s.a7 = 0
      · have x7 : (s.a7 != 0) = false := by simp [h7]
        have g7 := Lib.hid h7
        clear h7
        have p7 := (bkCell P1.out 7).trans (show _ = some (iv s.a7) from rfl)
        go_upto_region 12 with (fail)
        clear p7
        clear x7
        by_cases h10 : s.a10 = 0
        · have x10 : (s.a10 != 0) = false := by simp [h10]
          have g10 := Lib.hid h10
          clear h10
          have p10 := (bkCell P1.out 10).trans (show _ = some (iv s.a10) from rfl)
          go_upto_region 14 with (fail)
          clear p10
          have hT : revS s j = ⟨s.nm, s.a2, s.a3, s.a4, s.a5, s.a6, s.a7, s.a8, s.a9, s.a10, s.a11, s.a12⟩ := by unfold revS; simp only [if_pos g7.out, if_pos g10.out, if_true, if_false]
          clear x10 e1 e2 e3 e4
          go_wp2_with (first
            | (refine wpList_load_row rfl 24 (.tmp 5) rfl (w1.heap.size) rfl 24 _ (0, 0) _ T1.out Try.underlying24 rfl (S.i24 _ _ _ _) ?_)
            | (refine wpList_store_row rfl 24 (.tmp 2) (.tmp 61) rfl (w.heap.size + 1) (S.cs ⟨s.nm, s.a2, s.a3, s.a4, s.a5, s.a6, s.a7, s.a8, s.a9, s.a10, s.a11, s.a12⟩ (some ⟨w2.heap.size, 0, none⟩) j j) rfl rfl 24 _ H1.out (S.i24 _ _ _ _) (S.sz S.zero _ none _ 0 0 _ _) (S.one _ _ _ _) ?_))
          refine bodyPost_ret (res_ct rfl _ _ (w.heap.size + 1) 24 _ (0, 0) _ rfl (setRow_heap _ _ _ _ _ _ H1.out) Try.underlying24 rfl (S.i24 _ _ _ _)) rfl ⟨some ⟨w2.heap.size, 0, none⟩, j, by first | (rw [hT]; rfl) | rw [hT], ownBase2 (ownVR O1.out (by have := HH.out; have := HS.out; omega) _) (by have := HP.out; have := HS.out; omega), below_setRow B1 (by omega) _⟩
        · have x10 : (s.a10 != 0) = true := by simp [h10]
          have g10 := Lib.hid h10
          clear h10
          have p10 := (bkCell P1.out 10).trans (show _ = some (iv s.a10) from rfl)
          go_upto_region 13 with (fail)
          clear p10
          have p11 := (bkCell P1.out 11).trans (show _ = some (iv s.a11) from rfl)
          have p12 := (bkCell P1.out 12).trans (show _ = some (iv s.a12) from rfl)
          have t11 := (bkCell T1.out 11).trans (show _ = some (iv s.a11) from rfl)
          have t12 := (bkCell T1.out 12).trans (show _ = some (iv s.a12) from rfl)
          have u11 := bkFrozen T1.out 11
          have u12 := bkFrozen T1.out 12
          have hne : ¬ w.heap.size = w1.heap.size := by have := HP.out; omega
          have hne2 : ¬ w1.heap.size = w.heap.size := by have := HP.out; omega
          go_region
          clear hne hne2 p11 p12 t11 t12 u11 u12
          have P2 := Lib.hid (bkDrew (bkFar (bkFar (P1.out) (p := ⟨w1.heap.size, 11, none⟩) (by have := HP.out; simp; omega) (iv (j - s.a12))) (p := ⟨w1.heap.size, 12, none⟩) (by have := HP.out; simp; omega) (iv (j - s.a11))))
          have H2 := Lib.hid (bkDrew (bkFar (bkFar (H1.out) (p := ⟨w1.heap.size, 11, none⟩) (by have := HH.out; simp; omega) (iv (j - s.a12))) (p := ⟨w1.heap.size, 12, none⟩) (by have := HH.out; simp; omega) (iv (j - s.a11))))
          have T2 := Lib.hid (bkDrew (bkPut (bkPut (T1.out) 11 (iv (j - s.a12)) (show _ = S.cs ⟨s.nm, s.a2, s.a3, s.a4, s.a5, s.a6, s.a7, s.a8, s.a9, s.a10, (j - s.a12), s.a12⟩ (some ⟨w2.heap.size, 0, none⟩) j j from rfl)) 12 (iv (j - s.a11)) (show _ = S.cs ⟨s.nm, s.a2, s.a3, s.a4, s.a5, s.a6, s.a7, s.a8, s.a9, s.a10, (j - s.a12), (j - s.a11)⟩ (some ⟨w2.heap.size, 0, none⟩) j j from rfl)))
          have O2 := Lib.hid (ownVC (ownVC (O1.out) (p := ⟨w1.heap.size, 11, none⟩) (by have := HS.out; simp; omega) (iv (j - s.a12))) (p := ⟨w1.heap.size, 12, none⟩) (by have := HS.out; simp; omega) (iv (j - s.a11))).drew
          have B2 := ((B1.setCell (p := ⟨w1.heap.size, 11, none⟩) (Nat.le_of_lt HP.out) (iv (j - s.a12))).setCell (p := ⟨w1.heap.size, 12, none⟩) (Nat.le_of_lt HP.out) (iv (j - s.a11))).drew
          clear P1 H1 T1 O1 B1
          generalize ((wr.setCell ⟨w1.heap.size, 11, none⟩ (iv (j - s.a12))).setCell ⟨w1.heap.size, 12, none⟩ (iv (j - s.a11))).drew = wr2 at *
          have hT : revS s j = ⟨s.nm, s.a2, s.a3, s.a4, s.a5, s.a6, s.a7, s.a8, s.a9, s.a10, (j - s.a12), (j - s.a11)⟩ := by unfold revS; simp only [if_pos g7.out, if_neg g10.out, if_true, if_false]
          clear x10 e1 e2 e3 e4
          go_wp2_with (first
            | (refine wpList_load_row rfl 24 (.tmp 5) rfl (w1.heap.size) rfl 24 _ (0, 0) _ T2.out Try.underlying24 rfl (S.i24 _ _ _ _) ?_)
            | (refine wpList_store_row rfl 24 (.tmp 2) (.tmp 61) rfl (w.heap.size + 1) (S.cs ⟨s.nm, s.a2, s.a3, s.a4, s.a5, s.a6, s.a7, s.a8, s.a9, s.a10, (j - s.a12), (j - s.a11)⟩ (some ⟨w2.heap.size, 0, none⟩) j j) rfl rfl 24 _ H2.out (S.i24 _ _ _ _) (S.sz S.zero _ none _ 0 0 _ _) (S.one _ _ _ _) ?_))
          refine bodyPost_ret (res_ct rfl _ _ (w.heap.size + 1) 24 _ (0, 0) _ rfl (setRow_heap _ _ _ _ _ _ H2.out) Try.underlying24 rfl (S.i24 _ _ _ _)) rfl ⟨some ⟨w2.heap.size, 0, none⟩, j, by first | (rw [hT]; rfl) | rw [hT], ownBase2 (ownVR O2.out (by have := HH.out; have := HS.out; omega) _) (by have := HP.out; have := HS.out; omega), below_setRow B2 (by omega) _⟩
      · have x7 : (s.a7 != 0) = true := by simp [h7]
        have g7 := Lib.hid h7
        clear h7
        have p7 := (bkCell P1.out 7).trans (show _ = some (iv s.a7) from rfl)
        go_upto_region 11 with (fail)
        clear p7
        have p8 := (bkCell P1.out 8).trans (show _ = some (iv s.a8) from rfl)
        have p9 := (bkCell P1.out 9).trans (show _ = some (iv s.a9) from rfl)
        have t8 := (bkCell T1.out 8).trans (show _ = some (iv s.a8) from rfl)
        have t9 := (bkCell T1.out 9).trans (show _ = some (iv s.a9) from rfl)
        have u8 := bkFrozen T1.out 8
        have u9 := bkFrozen T1.out 9
        have hne : ¬ w.heap.size = w1.heap.size := by have := HP.out; omega
        have hne2 : ¬ w1.heap.size = w.heap.size := by have := HP.out; omega
        go_region
        clear hne hne2 p8 p9 t8 t9 u8 u9
        have P2 := Lib.hid (bkDrew (bkFar (bkFar (P1.out) (p := ⟨w1.heap.size, 8, none⟩) (by have := HP.out; simp; omega) (iv (j - s.a9))) (p := ⟨w1.heap.size, 9, none⟩) (by have := HP.out; simp; omega) (iv (j - s.a8))))
        have H2 := Lib.hid (bkDrew (bkFar (bkFar (H1.out) (p := ⟨w1.heap.size, 8, none⟩) (by have := HH.out; simp; omega) (iv (j - s.a9))) (p := ⟨w1.heap.size, 9, none⟩) (by have := HH.out; simp; omega) (iv (j - s.a8))))
        have T2 := Lib.hid (bkDrew (bkPut (bkPut (T1.out) 8 (iv (j - s.a9)) (show _ = S.cs ⟨s.nm, s.a2, s.a3, s.a4, s.a5, s.a6, s.a7, (j - s.a9), s.a9, s.a10, s.a11, s.a12⟩ (some ⟨w2.heap.size, 0, none⟩) j j from rfl)) 9 (iv (j - s.a8)) (show _ = S.cs ⟨s.nm, s.a2, s.a3, s.a4, s.a5, s.a6, s.a7, (j - s.a9), (j - s.a8), s.a10, s.a11, s.a12⟩ (some ⟨w2.heap.size, 0, none⟩) j j from rfl)))
        have O2 := Lib.hid (ownVC (ownVC (O1.out) (p := ⟨w1.heap.size, 8, none⟩) (by have := HS.out; simp; omega) (iv (j - s.a9))) (p := ⟨w1.heap.size, 9, none⟩) (by have := HS.out; simp; omega) (iv (j - s.a8))).drew
        have B2 := ((B1.setCell (p := ⟨w1.heap.size, 8, none⟩) (Nat.le_of_lt HP.out) (iv (j - s.a9))).setCell (p := ⟨w1.heap.size, 9, none⟩) (Nat.le_of_lt HP.out) (iv (j - s.a8))).drew
        clear P1 H1 T1 O1 B1
        generalize ((wr.setCell ⟨w1.heap.size, 8, none⟩ (iv (j - s.a9))).setCell ⟨w1.heap.size, 9, none⟩ (iv (j - s.a8))).drew = wr2 at *
        clear x7
        by_cases h10 : s.a10 = 0
        · have x10 : (s.a10 != 0) = false := by simp [h10]
          have g10 := Lib.hid h10
          clear h10
          have p10 := (bkCell P2.out 10).trans (show _ = some (iv s.a10) from rfl)
          go_upto_region 14 with (fail)
          clear p10
          have hT : revS s j = ⟨s.nm, s.a2, s.a3, s.a4, s.a5, s.a6, s.a7, (j - s.a9), (j - s.a8), s.a10, s.a11, s.a12⟩ := by unfold revS; simp only [if_neg g7.out, if_pos g10.out, if_true, if_false]
          clear x10 e1 e2 e3 e4
          go_wp2_with (first
            | (refine wpList_load_row rfl 24 (.tmp 5) rfl (w1.heap.size) rfl 24 _ (0, 0) _ T2.out Try.underlying24 rfl (S.i24 _ _ _ _) ?_)
            | (refine wpList_store_row rfl 24 (.tmp 2) (.tmp 61) rfl (w.heap.size + 1) (S.cs ⟨s.nm, s.a2, s.a3, s.a4, s.a5, s.a6, s.a7, (j - s.a9), (j - s.a8), s.a10, s.a11, s.a12⟩ (some ⟨w2.heap.size, 0, none⟩) j j) rfl rfl 24 _ H2.out (S.i24 _ _ _ _) (S.sz S.zero _ none _ 0 0 _ _) (S.one _ _ _ _) ?_))
          refine bodyPost_ret (res_ct rfl _ _ (w.heap.size + 1) 24 _ (0, 0) _ rfl (setRow_heap _ _ _ _ _ _ H2.out) Try.underlying24 rfl (S.i24 _ _ _ _)) rfl ⟨some ⟨w2.heap.size, 0, none⟩, j, by first | (rw [hT]; rfl) | rw [hT], ownBase2 (ownVR O2.out (by have := HH.out; have := HS.out; omega) _) (by have := HP.out; have := HS.out; omega), below_setRow B2 (by omega) _⟩
        · have x10 : (s.a10 != 0) = true := by simp [h10]
          have g10 := Lib.hid h10
          clear h10
          have p10 := (bkCell P2.out 10).trans (show _ = some (iv s.a10) from rfl)
          go_upto_region 13 with (fail)
          clear p10
          have p11 := (bkCell P2.out 11).trans (show _ = some (iv s.a11) from rfl)
          have p12 := (bkCell P2.out 12).trans (show _ = some (iv s.a12) from rfl)
          have t11 := (bkCell T2.out 11).trans (show _ = some (iv s.a11) from rfl)
          have t12 := (bkCell T2.out 12).trans (show _ = some (iv s.a12) from rfl)
          have u11 := bkFrozen T2.out 11
          have u12 := bkFrozen T2.out 12
          have hne : ¬ w.heap.size = w1.heap.size := by have := HP.out; omega
          have hne2 : ¬ w1.heap.size = w.heap.size := by have := HP.out; omega
          go_region
          clear hne hne2 p11 p12 t11 t12 u11 u12
          have P3 := Lib.hid (bkDrew (bkFar (bkFar (P2.out) (p := ⟨w1.heap.size, 11, none⟩) (by have := HP.out; simp; omega) (iv (j - s.a12))) (p := ⟨w1.heap.size, 12, none⟩) (by have := HP.out; simp; omega) (iv (j - s.a11))))
          have H3 := Lib.hid (bkDrew (bkFar (bkFar (H2.out) (p := ⟨w1.heap.size, 11, none⟩) (by have := HH.out; simp; omega) (iv (j - s.a12))) (p := ⟨w1.heap.size, 12, none⟩) (by have := HH.out; simp; omega) (iv (j - s.a11))))
          have T3 := Lib.hid (bkDrew (bkPut (bkPut (T2.out) 11 (iv (j - s.a12)) (show _ = S.cs ⟨s.nm, s.a2, s.a3, s.a4, s.a5, s.a6, s.a7, (j - s.a9), (j - s.a8), s.a10, (j - s.a12), s.a12⟩ (some ⟨w2.heap.size, 0, none⟩) j j from rfl)) 12 (iv (j - s.a11)) (show _ = S.cs ⟨s.nm, s.a2, s.a3, s.a4, s.a5, s.a6, s.a7, (j - s.a9), (j - s.a8), s.a10, (j - s.a12), (j - s.a11)⟩ (some ⟨w2.heap.size, 0, none⟩) j j from rfl)))
          have O3 := Lib.hid (ownVC (ownVC (O2.out) (p := ⟨w1.heap.size, 11, none⟩) (by have := HS.out; simp; omega) (iv (j - s.a12))) (p := ⟨w1.heap.size, 12, none⟩) (by have := HS.out; simp; omega) (iv (j - s.a11))).drew
          have B3 := ((B2.setCell (p := ⟨w1.heap.size, 11, none⟩) (Nat.le_of_lt HP.out) (iv (j - s.a12))).setCell (p := ⟨w1.heap.size, 12, none⟩) (Nat.le_of_lt HP.out) (iv (j - s.a11))).drew
          clear P2 H2 T2 O2 B2
          generalize ((wr2.setCell ⟨w1.heap.size, 11, none⟩ (iv (j - s.a12))).setCell ⟨w1.heap.size, 12, none⟩ (iv (j - s.a11))).drew = wr3 at *
          have hT : revS s j = ⟨s.nm, s.a2, s.a3, s.a4, s.a5, s.a6, s.a7, (j - s.a9), (j - s.a8), s.a10, (j - s.a12), (j - s.a11)⟩ := by unfold revS; simp only [if_neg g7.out, if_neg g10.out, if_true, if_false]
          clear x10 e1 e2 e3 e4
          go_wp2_with (first
            | (refine wpList_load_row rfl 24 (.tmp 5) rfl (w1.heap.size) rfl 24 _ (0, 0) _ T3.out Try.underlying24 rfl (S.i24 _ _ _ _) ?_)
            | (refine wpList_store_row rfl 24 (.tmp 2) (.tmp 61) rfl (w.heap.size + 1) (S.cs ⟨s.nm, s.a2, s.a3, s.a4, s.a5, s.a6, s.a7, (j - s.a9), (j - s.a8), s.a10, (j - s.a12), (j - s.a11)⟩ (some ⟨w2.heap.size, 0, none⟩) j j) rfl rfl 24 _ H3.out (S.i24 _ _ _ _) (S.sz S.zero _ none _ 0 0 _ _) (S.one _ _ _ _) ?_))
          refine bodyPost_ret (res_ct rfl _ _ (w.heap.size + 1) 24 _ (0, 0) _ rfl (setRow_heap _ _ _ _ _ _ H3.out) Try.underlying24 rfl (S.i24 _ _ _ _)) rfl ⟨some ⟨w2.heap.size, 0, none⟩, j, by first | (rw [hT]; rfl) | rw [hT], ownBase2 (ownVR O3.out (by have := HH.out; have := HS.out; omega) _) (by have := HP.out; have := HS.out; omega), below_setRow B3 (by omega) _⟩
end Go.Proofs.Ytnmoiolddfboiaa.SX

/- Once around a loop a cursor stands where it stood. -/
import Derived.Test.YtnmoiolddfboiaaSxI
namespace Go.Proofs.Ytnmoiolddfboiaa.SX
open Go.RowKit Go.Proofs.YtnmoiolddfboiaaW.PrintLast Go.Proofs.Ytnmoiolddfboiaa.TX Go.Proofs.Ytnmoiolddfboiaa.Cu
set_option linter.unusedVariables false
set_option linter.unusedSimpArgs false
theorem and16 (n : Int) : bits .and .i64 n 65535 = n % 65536 := by
  have h127 : (BitVec.ofInt 64 65535).toNat = 2 ^ 16 - 1 := by decide
  have key : (BitVec.ofInt 64 n &&& BitVec.ofInt 64 65535).toNat = (n % ((2 ^ 64 : Nat) : Int)).toNat % 2 ^ 16 := by
    rw [BitVec.toNat_and, BitVec.toNat_ofInt, h127, Nat.and_two_pow_sub_one_eq_mod]
  show IntKind.i64.wrap ((BitVec.ofInt 64 n &&& BitVec.ofInt 64 65535).toNat : Nat) = n % 65536
  rw [key, IntKind.wrap_i64]
  omega
set_option maxHeartbeats 16000000 in
set_option maxRecDepth 100000 in
theorem turns_none (q : Q) (s : S) (A : Option Addr) (n c0 b o : Nat) (xs : Nat → Int) (p r : Int) (k ga gb : Int) (hk : appA s n xs q.he = (k, ga, gb)) (h0 : k = 0) (hn : n ≤ 9223372036854775807) (hc0 : n ≤ c0) (w : World) (hA : DataAt w A n b o xs) : Calls Try.prog 5 #[.agg (q.cs s A n c0), iv p, iv r] w fun e w' => e = .returned (.bool true) ∧ Below w.heap.size w w' := by
  have B0 : Below w.heap.size w (w.alloc (Obj.cells (q.cs s A n c0) 28)) := (Below.refl _ _).alloc (Nat.le_refl _) _
  have P0 := Lib.hid (show (w.alloc (Obj.cells (q.cs s A n c0) 28)).heap[w.heap.size]? = some (.cells (q.cs s A n c0) 28 (0, 0)) from heap_alloc_new w _)
  have D0 := Lib.hid (hA.later B0)
  have AQ := Lib.hid (show ∀ W : World, DataAt W A n b o xs → Calls Try.prog 20 #[.agg (s.cs A n c0), .bool q.he] W fun e w' => e = .returned (.tuple #[iv k, iv ga, iv gb]) ∧ Below W.heap.size W w' from fun W h => by
    have := sapplies_any s A n c0 b o xs q.he hn hc0 W h
    rwa [hk] at this)
  subst h0
  have y26 : (q.cs s A n c0)[26]? = some (.bool q.he) := rfl
  clear hA hk
  go_enter Try.func5, Try.ntmps5
  go_wp2_with (first
    | (refine wpLoadAsk rfl _ rfl (w.heap.size) rfl q s A n c0 P0.out ?_)
    | (go_at_call 20; (with_reducible refine (AQ.out _ D0.out).mono ?_); rintro e w1 ⟨rfl, hb1⟩; have P1 := Lib.hid (bkBelow P0.out hb1); have D1 := Lib.hid (D0.out.later hb1); have B1 := bdT B0 B0.size hb1; clear P0 D0)
    | (go_at_call 16; (with_reducible refine (awake_any _).mono ?_); rintro e wz ⟨rfl, hbz⟩))
  go_ret
  exact ⟨rfl, bdT B1 B1.size hbz⟩
set_option maxHeartbeats 16000000 in
set_option maxRecDepth 100000 in
theorem turns_ok (q : Q) (s : S) (A : Option Addr) (n c0 b o : Nat) (xs : Nat → Int) (p r : Int) (kn : Nat) (ga gb ps fr : Int) (it : Nat → Cur) (hk : appA s n xs q.he = ((kn : Int), ga, gb)) (hk2 : kn = 1 ∨ kn = 2) (hv : vS s n xs = true) (hab : 0 ≤ ga ∧ ga < gb ∧ gb ≤ 4096) (hps : ps = ga + p % (gb - ga)) (hfr : bits .and .i64 r 65535 = fr) (hi0 : it 0 = ⟨ps, fr, q.ba, false⟩) (his : ∀ j, moveM s n (it j) (65536 * (gb - ga)) q.he = it (j + 1)) (hio : ∀ j, CurOk n (it j)) (hit : it kn = ⟨ps, fr, q.ba, false⟩) (hn : n ≤ 9223372036854775807) (hc0 : n ≤ c0) (w : World) (hA : DataAt w A n b o xs) : Calls Try.prog 5 #[.agg (q.cs s A n c0), iv p, iv r] w fun e w' => e = .returned (.bool true) ∧ Below w.heap.size w w' := by
  have B0 : Below w.heap.size w (w.alloc (Obj.cells (q.cs s A n c0) 28)) := (Below.refl _ _).alloc (Nat.le_refl _) _
  have P0 := Lib.hid (show (w.alloc (Obj.cells (q.cs s A n c0) 28)).heap[w.heap.size]? = some (.cells (q.cs s A n c0) 28 (0, 0)) from heap_alloc_new w _)
  have D0 := Lib.hid (hA.later B0)
  have AQ := Lib.hid (show ∀ W : World, DataAt W A n b o xs → Calls Try.prog 20 #[.agg (s.cs A n c0), .bool q.he] W fun e w' => e = .returned (.tuple #[iv kn, iv ga, iv gb]) ∧ Below W.heap.size W w' from fun W h => by
    have := sapplies_any s A n c0 b o xs q.he hn hc0 W h
    rwa [hk] at this)
  have y26 : (q.cs s A n c0)[26]? = some (.bool q.he) := rfl
  have g0 : 0 ≤ ga := hab.1
  have g1 : ga < gb := hab.2.1
  have g2 : gb ≤ 4096 := hab.2.2
  have w0 : ¬ (gb - ga = 0) := by omega
  obtain ⟨t, f1⟩ : ∃ t, Int.tmod p (gb - ga) = t := ⟨_, rfl⟩
  obtain ⟨u, f3⟩ : ∃ u, Int.tmod (t + (gb - ga)) (gb - ga) = u := ⟨_, rfl⟩
  have tr := tmod_rng (a := p) (W := gb - ga) (by omega)
  have ur := tmod_rng (a := t + (gb - ga)) (W := gb - ga) (by omega)
  have uf := tmod_fix (a := p) (W := gb - ga) (by omega)
  rw [f1] at tr uf
  rw [f3] at ur uf
  have f2 : wrap64 (t + (gb - ga)) = t + (gb - ga) := wrap_in (by omega) (by omega)
  have f4 : wrap64 (ga + u) = ps := by rw [wrap_in (by omega) (by omega), hps, uf]
  have fT : wrap64 (65536 * (gb - ga)) = 65536 * (gb - ga) := wrap_in (by omega) (by omega)
  have FT := Lib.hid fT
  have eW : wrap64 (gb - ga) = gb - ga := wrap_in (by omega) (by omega)
  have KN := Lib.hid hk2
  have HV := Lib.hid hv
  have HN := Lib.hid hn
  have HC0 := Lib.hid hc0
  have HIT := Lib.hid hit
  have HI0 := Lib.hid hi0
  have HIS := Lib.hid his
  have HIO := Lib.hid hio
  have HD := Lib.hid hA
  have EQ := Lib.hid (eqCur (it kn))
  have HG2 := Lib.hid (show 0 ≤ 65536 * (gb - ga) ∧ 65536 * (gb - ga) ≤ 268435456 by omega)
  have kne : ((kn : Int) == 0) = false := by have := hk2; rcases this with rfl | rfl <;> rfl
  have kle : (kn : Int) ≤ 2 := by omega
  clear hA hk tr ur uf fT hps hab hit hi0 his hio hv hk2
  go_enter Try.func5, Try.ntmps5
  go_upto_region 4 with (first
    | (refine wpLoadAsk rfl _ rfl (w.heap.size) rfl q s A n c0 P0.out ?_)
    | (go_at_call 20; (with_reducible refine (AQ.out _ D0.out).mono ?_); rintro e w1 ⟨rfl, hb1⟩; have P1 := Lib.hid (bkBelow P0.out hb1); have D1 := Lib.hid (D0.out.later hb1); have B1 := bdT B0 B0.size hb1; clear P0 D0))
  clear y26 kne
  go_upto_region 5 with (fail)
  clear eW
  refine start_ (n := 16) (S := fun w' => w'.heap[w.heap.size]? = some (.cells (q.cs s A n c0) 28 (0, 0)) ∧ Below w.heap.size w w') (ds := [15]) #[false, false, false, false, false, false, false, false, false, false, false, false, false, false, false, false] (by kernel_rfl) rfl rfl ⟨P1.out, B1.drew⟩ (fun hHeld => ?_)
  refine pure_ (i := 0) (N := some 30) (v := ?_) (a' := ?_) #[true, false, false, false, false, false, false, false, false, false, false, false, false, false, false, false] rfl rfl (by kernel_rfl) (fun _ _ _ h => h) (Or.inl ⟨by rfl, ?_⟩) ?_ ?_
  rotate_left
  · intro w'
    go_simp
    with_reducible rfl
  rotate_left
  · simp only [Act.put, List.setIfInBounds_toArray, List.set_cons_zero, List.set_cons_succ, i64_w, i32_w, f1, f2, f3, f4, hfr]
    rfl
  refine pure_ (i := 1) (N := some 31) (v := ?_) (a' := ?_) #[true, true, false, false, false, false, false, false, false, false, false, false, false, false, false, false] rfl rfl (by kernel_rfl) (fun _ _ _ h => h) (Or.inl ⟨by rfl, ?_⟩) ?_ ?_
  rotate_left
  · intro w'
    go_simp
    with_reducible rfl
  rotate_left
  · simp only [Act.put, List.setIfInBounds_toArray, List.set_cons_zero, List.set_cons_succ, i64_w, i32_w, f1, f2, f3, f4, hfr]
    rfl
  refine pure_ (i := 2) (N := some 32) (v := ?_) (a' := ?_) #[true, true, true, false, false, false, false, false, false, false, false, false, false, false, false, false] rfl rfl (by kernel_rfl) (fun _ _ _ h => h) (Or.inl ⟨by rfl, ?_⟩) ?_ ?_
  rotate_left
  · intro w'
    go_simp
    with_reducible rfl
  rotate_left
  · simp only [Act.put, List.setIfInBounds_toArray, List.set_cons_zero, List.set_cons_succ, i64_w, i32_w, f1, f2, f3, f4, hfr]
    rfl
  refine pure_ (i := 3) (N := some 33) (v := ?_) (a' := ?_) #[true, true, true, true, false, false, false, false, false, false, false, false, false, false, false, false] rfl rfl (by kernel_rfl) (fun _ _ _ h => h) (Or.inl ⟨by rfl, ?_⟩) ?_ ?_
  rotate_left
  · intro w'
    go_simp
    with_reducible rfl
  rotate_left
  · simp only [Act.put, List.setIfInBounds_toArray, List.set_cons_zero, List.set_cons_succ, i64_w, i32_w, f1, f2, f3, f4, hfr]
    rfl
  refine pure_ (i := 4) (N := some 34) (v := ?_) (a' := ?_) #[true, true, true, true, true, false, false, false, false, false, false, false, false, false, false, false] rfl rfl (by kernel_rfl) (fun _ _ _ h => h) (Or.inl ⟨by rfl, ?_⟩) ?_ ?_
  rotate_left
  · intro w'
    go_simp
    with_reducible rfl
  rotate_left
  · simp only [Act.put, List.setIfInBounds_toArray, List.set_cons_zero, List.set_cons_succ, i64_w, i32_w, f1, f2, f3, f4, hfr]
    rfl
  refine pure_ (i := 5) (N := some 35) (v := ?_) (a' := ?_) #[true, true, true, true, true, true, false, false, false, false, false, false, false, false, false, false] rfl rfl (by kernel_rfl) (fun _ _ _ h => h) (Or.inl ⟨by rfl, ?_⟩) ?_ ?_
  rotate_left
  · intro w'
    go_simp
    with_reducible rfl
  rotate_left
  · simp only [Act.put, List.setIfInBounds_toArray, List.set_cons_zero, List.set_cons_succ, i64_w, i32_w, f1, f2, f3, f4, hfr]
    rfl
  refine pure_ (i := 6) (N := some 36) (v := ?_) (a' := ?_) #[true, true, true, true, true, true, true, false, false, false, false, false, false, false, false, false] rfl rfl (by kernel_rfl) (fun _ _ _ h => h) (Or.inl ⟨by rfl, ?_⟩) ?_ ?_
  rotate_left
  · intro w'
    go_simp
    with_reducible rfl
  rotate_left
  · simp only [Act.put, List.setIfInBounds_toArray, List.set_cons_zero, List.set_cons_succ, i64_w, i32_w, f1, f2, f3, f4, hfr]
    rfl
  refine pure_ (i := 7) (N := some 37) (v := ?_) (a' := ?_) #[true, true, true, true, true, true, true, true, false, false, false, false, false, false, false, false] rfl rfl (by kernel_rfl) (fun _ _ _ h => h) (Or.inl ⟨by rfl, ?_⟩) ?_ ?_
  rotate_left
  · intro w'
    go_simp
    with_reducible rfl
  rotate_left
  · simp only [Act.put, List.setIfInBounds_toArray, List.set_cons_zero, List.set_cons_succ, i64_w, i32_w, f1, f2, f3, f4, hfr]
    rfl
  refine pure_ (i := 8) (N := some 38) (v := ?_) (a' := ?_) #[true, true, true, true, true, true, true, true, true, false, false, false, false, false, false, false] rfl rfl (by kernel_rfl) (fun _ _ _ h => h) (Or.inl ⟨by rfl, ?_⟩) ?_ ?_
  rotate_left
  · intro w'
    go_simp
    with_reducible rfl
  rotate_left
  · simp only [Act.put, List.setIfInBounds_toArray, List.set_cons_zero, List.set_cons_succ, i64_w, i32_w, f1, f2, f3, f4, hfr]
    rfl
  refine pure_ (i := 9) (N := some 39) (v := ?_) (a' := ?_) #[true, true, true, true, true, true, true, true, true, true, false, false, false, false, false, false] rfl rfl (by kernel_rfl) (fun _ _ _ h => h) (Or.inl ⟨by rfl, ?_⟩) ?_ ?_
  rotate_left
  · intro w'
    go_simp
    with_reducible rfl
  rotate_left
  · simp only [Act.put, List.setIfInBounds_toArray, List.set_cons_zero, List.set_cons_succ, i64_w, i32_w, f1, f2, f3, f4, hfr]
    rfl
  refine pure_ (i := 10) (N := some 40) (v := ?_) (a' := ?_) #[true, true, true, true, true, true, true, true, true, true, true, false, false, false, false, false] rfl rfl (by kernel_rfl) (fun _ _ _ h => h) (Or.inl ⟨by rfl, ?_⟩) ?_ ?_
  rotate_left
  · intro w'
    go_simp
    with_reducible rfl
  rotate_left
  · simp only [Act.put, List.setIfInBounds_toArray, List.set_cons_zero, List.set_cons_succ, i64_w, i32_w, f1, f2, f3, f4, hfr]
    rfl
  refine pure_ (i := 11) (N := some 41) (v := ?_) (a' := ?_) #[true, true, true, true, true, true, true, true, true, true, true, true, false, false, false, false] rfl rfl (by kernel_rfl) (fun _ _ _ h => h) (Or.inl ⟨by rfl, ?_⟩) ?_ ?_
  rotate_left
  · intro w'
    go_simp
    with_reducible rfl
  rotate_left
  · simp only [Act.put, List.setIfInBounds_toArray, List.set_cons_zero, List.set_cons_succ, i64_w, i32_w, f1, f2, f3, f4, hfr]
    rfl
  refine take_ (i := 12) (N := some 42) (v := ?_) (a' := ?_) #[true, true, true, true, true, true, true, true, true, true, true, true, true, false, false, false] rfl rfl (by kernel_rfl) (fun _ _ _ h => h) (Or.inl ⟨by rfl, ?_⟩) hHeld ?_ ?_
  rotate_left
  · rintro w' ⟨s0, s1⟩
    have z27 := (bkCell s0 27).trans (show _ = some (.bool q.ba) from rfl)
    clear s0 s1
    go_simp
    with_reducible rfl
  rotate_left
  · simp only [Act.put, List.setIfInBounds_toArray, List.set_cons_zero, List.set_cons_succ, i64_w, i32_w, f1, f2, f3, f4, hfr]
    rfl
  refine pure_ (i := 13) (N := some 43) (v := ?_) (a' := ?_) #[true, true, true, true, true, true, true, true, true, true, true, true, true, true, false, false] rfl rfl (by kernel_rfl) (fun _ _ _ h => h) (Or.inl ⟨by rfl, ?_⟩) ?_ ?_
  rotate_left
  · intro w'
    go_simp
    with_reducible rfl
  rotate_left
  · simp only [Act.put, List.setIfInBounds_toArray, List.set_cons_zero, List.set_cons_succ, i64_w, i32_w, f1, f2, f3, f4, hfr]
    rfl
  refine one_ (i := 14) (N := some 11) #[true, true, true, true, true, true, true, true, true, true, true, true, true, true, true, false] rfl rfl (by kernel_rfl) (by decide) (fun K hK => ?_)
  obtain ⟨s0, s1⟩ := hHeld
  refine value_ (w1 := ?_) (v := ?_) (by rfl) rfl ?_ ?_
  rotate_left 2
  · go_simp
    constructor
    · rfl
    · rfl
  have HZ := Lib.hid (heap_alloc_new w1.drew (Obj.cells #[iv 0, iv 0, .bool false, .bool false] 26))
  have HP := Lib.hid s0
  have HB := Lib.hid s1
  clear s0 s1
  refine hK.out _ _ ⟨bkAlloc HP.out _, HB.out.alloc HB.out.size _⟩ (fun hHeld => ?_)
  clear hK K
  refine norm_ (a' := ?_) ?_ ?_
  rotate_left
  · show Act.put _ (some 11) _ = _
    simp only [Act.put, List.setIfInBounds_toArray, List.set_cons_zero, List.set_cons_succ, i64_w, i32_w, f1, f2, f3, f4, hfr]
    rfl
  refine last_ (i := 15) (N := none) #[true, true, true, true, true, true, true, true, true, true, true, true, true, true, true, true] rfl rfl (by kernel_rfl) (by decide) (fun K hK => ?_)
  refine skip_ (w1 := ?_) (by rfl) rfl ?_ ?_
  rotate_left
  · refine exec_store_row 26 (.tmp 11) (.tmp 43) ?_ (w1.drew.heap.size) (Cur.cs ⟨ps, fr, q.ba, false⟩) ?_ ?_ 26 _ HZ.out (Cur.i26 _) (Cur.sz Cur.zero _) (Cur.one _) <;> rfl
  refine hK.out _ _ ?_
  clear hK K
  refine done_ (by kernel_rfl) ?_
  clear f1 f2 f3 f4 hfr w0 g0 g1 g2
  have K2 := below_setRow ((Below.refl w1.drew.heap.size w1.drew).alloc (Nat.le_refl _) (Obj.cells #[iv 0, iv 0, .bool false, .bool false] 26)) (g := w1.drew.heap.size) (Nat.le_refl _) (Cur.cs ⟨ps, fr, q.ba, false⟩)
  have C2 := Lib.hid (setRow_heap _ _ _ (Cur.cs ⟨ps, fr, q.ba, false⟩) _ _ HZ.out)
  have P2 := Lib.hid (bkBelow HP.out K2)
  have B2 := bdT HB.out HB.out.size K2
  have D2 := Lib.hid (HD.out.later B2)
  have C2' := Lib.hid C2.out
  have HGX := Lib.hid (show w.heap.size < w1.drew.heap.size from bkLt HP.out)
  clear K2 HZ HP HB P1 B1 D1
  generalize hwx : (w1.drew.alloc (Obj.cells #[iv 0, iv 0, .bool false, .bool false] 26)).setRow w1.drew.heap.size (Cur.cs ⟨ps, fr, q.ba, false⟩) = wy at *
  go_upto_region 7 with (first
    | (refine wpList_load_row rfl 26 (.tmp 11) rfl (w1.drew.heap.size) rfl 26 _ (0, 0) _ C2.out Try.underlying26 rfl (Cur.i26 _) ?_)
    | (refine wpList_store_row rfl 26 (.tmp 12) (.tmp 44) rfl (wy.heap.size) (Cur.cs ⟨ps, fr, q.ba, false⟩) rfl rfl 26 _ (heap_alloc_new wy (Obj.cells #[iv 0, iv 0, .bool false, .bool false] 26)) (Cur.i26 _) (Cur.sz Cur.zero _) (Cur.one _) ?_; have K3 := below_setRow ((Below.refl wy.heap.size wy).alloc (Nat.le_refl _) (Obj.cells #[iv 0, iv 0, .bool false, .bool false] 26)) (g := wy.heap.size) (Nat.le_refl _) (Cur.cs ⟨ps, fr, q.ba, false⟩); have P3 := Lib.hid (bkBelow P2.out K3); have C3 := Lib.hid (bkBelow C2.out K3); have D3 := Lib.hid (D2.out.later K3); have B3 := bdT B2 B2.size K3; have E3 := Lib.hid (setRow_heap _ _ _ (Cur.cs ⟨ps, fr, q.ba, false⟩) _ _ (heap_alloc_new wy (Obj.cells #[iv 0, iv 0, .bool false, .bool false] 26))); clear P2 C2 D2))
  have HGY := Lib.hid (show w1.drew.heap.size < wy.heap.size from bkLt C2'.out)
  go_upto_region 8 with (fail)
  go_loopw [13] (fun v wr => ∃ j : Nat, j ≤ kn ∧ v = iv j ∧ wr.heap[w.heap.size]? = some (.cells (q.cs s A n c0) 28 (0, 0)) ∧ wr.heap[w1.drew.heap.size]? = some (.cells (Cur.cs (it kn)) 26 (0, 0)) ∧ wr.heap[wy.heap.size]? = some (.cells (Cur.cs (it j)) 26 (0, 0)) ∧ Below w.heap.size w wr) (fun v _ => kn - (intOf v).toNat)
  case atStart => exact ⟨0, by omega, rfl, P3.out, by rw [HIT.out]; exact C3.out, by rw [HI0.out]; exact E3.out, B3⟩
  case round =>
    clear P3 D3 C3 B3 E3 C2'
    obtain ⟨j, hj, rfl, hP, hC, hE, hB⟩ := hrel
    have P10 := Lib.hid hP
    have C10 := Lib.hid hC
    have E10 := Lib.hid hE
    have D10 := Lib.hid (HD.out.later hB)
    have B10 := hB
    have l3 : (0 : Int) ≤ (j : Int) := by omega
    clear hP hC hE hB
    by_cases hlt : j < kn
    · have l4 : (j : Int) < (kn : Int) := by omega
      have z26 := (bkCell P10.out 26).trans (show _ = some (.bool q.he) from rfl)
      have fT := FT.out
      have MQ := Lib.hid (show ∀ W : World, DataAt W A n b o xs → Calls Try.prog 18 #[.agg (s.cs A n c0), .agg (Cur.cs (it j)), iv (65536 * (gb - ga)), .bool q.he] W fun e w' => e = .returned (.tuple #[.agg (Cur.cs (it (j + 1))), iv 0]) ∧ Below W.heap.size W w' from fun W h => by
        have := smove_any s A n c0 b o xs (it j) (65536 * (gb - ga)) q.he HN.out HC0.out W h
        rwa [show moveA s n xs (it j) (65536 * (gb - ga)) q.he = (it (j + 1), 0) from by unfold moveA; rw [if_pos ⟨HV.out, okB_iff.2 (HIO.out j)⟩, if_neg (by have := HG2.out; omega), HIS.out j]] at this)
      go_wp2_with (first
        | (refine wpLoadAsk rfl _ rfl (w.heap.size) rfl q s A n c0 P10.out ?_)
        | (refine wpList_load_row rfl 26 (.tmp 12) rfl (wy.heap.size) rfl 26 _ (0, 0) _ E10.out Try.underlying26 rfl (Cur.i26 _) ?_)
        | (go_at_call 18; (with_reducible refine (MQ.out _ D10.out).mono ?_); rintro e w11 ⟨rfl, hb11⟩; have P11 := Lib.hid (bkBelow P10.out hb11); have C11 := Lib.hid (bkBelow C10.out hb11); have E11 := Lib.hid (bkBelow E10.out hb11); have D11 := Lib.hid (D10.out.later hb11); have B11 := bdT B10 B10.size hb11; clear P10 C10 E10 D10)
        | (refine wpList_store_row rfl 26 (.tmp 12) (.tmp 59) rfl (wy.heap.size) (Cur.cs (it (j + 1))) rfl rfl 26 _ E11.out (Cur.i26 _) (Cur.sz _ _) (Cur.one _) ?_))
      have h1 := HGX.out
      have h2 := HGY.out
      exact ⟨⟨j + 1, by omega, by go_num, (setRow_other _ wy.heap.size w.heap.size _ (by omega)).trans P11.out, (setRow_other _ wy.heap.size w1.drew.heap.size _ (by omega)).trans C11.out, setRow_heap _ _ _ _ _ _ E11.out, below_setRow B11 (by omega) _⟩, by simp [intOf]; omega⟩
    · obtain rfl : j = kn := by omega
      have eqx := EQ.out
      go_wp2_with (first
        | (refine wpList_load_row rfl 26 (.tmp 12) rfl (wy.heap.size) rfl 26 _ (0, 0) _ E10.out Try.underlying26 rfl (Cur.i26 _) ?_)
        | (refine wpList_load_row rfl 26 (.tmp 11) rfl (w1.drew.heap.size) rfl 26 _ (0, 0) _ C10.out Try.underlying26 rfl (Cur.i26 _) ?_)
        | (go_at_call 16; (with_reducible refine (awake_any _).mono ?_); rintro e wz ⟨rfl, hbz⟩))
      go_ret
      exact ⟨rfl, bdT B10 B10.size hbz⟩
def itM (s : S) (n : Nat) (T : Int) (held : Bool) (c : Cur) : Nat → Cur
  | 0 => c
  | j + 1 => moveM s n (itM s n T held c j) T held
theorem turns_any (q : Q) (s : S) (A : Option Addr) (n c0 b o : Nat) (xs : Nat → Int) (p r : Int) (hn : n ≤ 9223372036854775807) (hc0 : n ≤ c0) (w : World) (hA : DataAt w A n b o xs) : Calls Try.prog 5 #[.agg (q.cs s A n c0), iv p, iv r] w fun e w' => e = .returned (.bool true) ∧ Below w.heap.size w w' := by
  obtain ⟨k, ga, gb, hk⟩ : ∃ k ga gb, appA s n xs q.he = (k, ga, gb) := ⟨_, _, _, rfl⟩
  by_cases h0 : k = 0
  · exact turns_none q s A n c0 b o xs p r k ga gb hk h0 hn hc0 w hA
  · cases hv : vS s n xs
    · rw [show appA s n xs q.he = (0, 0, 0) from if_neg (by rw [hv]; decide)] at hk
      exact absurd (congrArg Prod.fst hk).symm h0
    · have hr : rgS s q.he = (k, ga, gb) := by rw [← hk]; exact (if_pos hv).symm
      have hL := vS_loops hv
      obtain ⟨l1, l2⟩ := loops_rg hL q.he
      rw [hr] at l1 l2
      simp only at l1 l2
      obtain ⟨k12, b0, b1, b2⟩ : (k = 1 ∨ k = 2) ∧ 0 ≤ ga ∧ ga < gb ∧ gb ≤ n := by
        rcases l1 with h | h
        · exact absurd h h0
        · exact h
      have hn4 := hL.1
      have m1 := Int.emod_nonneg p (show gb - ga ≠ 0 by omega)
      have m2 := Int.emod_lt_of_pos p (show 0 < gb - ga by omega)
      have hfr := and16 r
      have hc : CurOk n ⟨ga + p % (gb - ga), bits .and .i64 r 65535, q.ba, false⟩ := by
        unfold CurOk
        rw [if_neg (show ¬ (false = true) by decide)]
        simp only
        omega
      have ok : ∀ j, CurOk n (itM s n (65536 * (gb - ga)) q.he ⟨ga + p % (gb - ga), bits .and .i64 r 65535, q.ba, false⟩ j) := by
        intro j
        induction j with
        | zero => exact hc
        | succ j ih => exact moveM_ok hL ih (by omega)
      have mk : ∀ c, moveM s n c (65536 * (gb - ga)) q.he = moveK k ga gb n c (65536 * (gb - ga)) := fun c => by unfold moveM; rw [hr]
      rcases k12 with rfl | rfl
      · refine turns_ok q s A n c0 b o xs p r 1 ga gb _ _ (itM s n (65536 * (gb - ga)) q.he ⟨ga + p % (gb - ga), bits .and .i64 r 65535, q.ba, false⟩) hk (.inl rfl) hv ⟨b0, b1, by omega⟩ rfl rfl rfl (fun _ => rfl) ok ?_ hn hc0 w hA
        show moveM s n _ _ _ = _
        rw [mk]
        exact turn_fwd b0 b1 rfl (by simp only [itM]; omega) (by simp only [itM]; omega) (by simp only [itM]; omega) (by simp only [itM]; omega)
      · refine turns_ok q s A n c0 b o xs p r 2 ga gb _ _ (itM s n (65536 * (gb - ga)) q.he ⟨ga + p % (gb - ga), bits .and .i64 r 65535, q.ba, false⟩) hk (.inr rfl) hv ⟨b0, b1, by omega⟩ rfl rfl rfl (fun _ => rfl) ok ?_ hn hc0 w hA
        show moveM s n (moveM s n _ _ _) _ _ = _
        rw [mk, mk]
        exact turn_pp b0 b1 b2 rfl (by simp only [itM]; omega) (by simp only [itM]; omega) (by simp only [itM]; omega) (by simp only [itM]; omega)
theorem turns_law (q : Q) (s : S) (A : Option Addr) (n c0 : Nat) (zs : List Int) (p r : Int) (w : World) (h : RowOf w A n c0 zs) : Calls Try.prog 5 #[.agg (q.cs s A n c0), iv p, iv r] w fun e w' => e = .returned (.bool true) ∧ Below w.heap.size w w' := by
  obtain ⟨k1, hn, b, o, d1⟩ := dataOf h
  exact turns_any q s A n c0 b o _ p r hn k1 w d1
end Go.Proofs.Ytnmoiolddfboiaa.SX

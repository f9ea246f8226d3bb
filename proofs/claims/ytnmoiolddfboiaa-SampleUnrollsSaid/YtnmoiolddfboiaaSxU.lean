/- What Unroll returns is what Tap returns along a cursor. -/
import Derived.Test.YtnmoiolddfboiaaSxI
namespace Go.Proofs.Ytnmoiolddfboiaa.SX
open Go.RowKit Go.Proofs.YtnmoiolddfboiaaW.PrintLast Go.Proofs.Ytnmoiolddfboiaa.TX Go.Proofs.Ytnmoiolddfboiaa.Cu
set_option linter.unusedVariables false
set_option linter.unusedSimpArgs false
theorem and9 (n : Int) : bits .and .i64 n 511 = n % 512 := by
  have h127 : (BitVec.ofInt 64 511).toNat = 2 ^ 9 - 1 := by decide
  have key : (BitVec.ofInt 64 n &&& BitVec.ofInt 64 511).toNat = (n % ((2 ^ 64 : Nat) : Int)).toNat % 2 ^ 9 := by
    rw [BitVec.toNat_and, BitVec.toNat_ofInt, h127, Nat.and_two_pow_sub_one_eq_mod]
  show IntKind.i64.wrap ((BitVec.ofInt 64 n &&& BitVec.ofInt 64 511).toNat : Nat) = n % 512
  rw [key, IntKind.wrap_i64]
  omega
theorem drewD {w : World} {A : Option Addr} {n b o : Nat} {xs : Nat → Int} (h : DataAt w A n b o xs) : DataAt w.drew A n b o xs := ⟨h.top, h.low, h.cell⟩
/-- the sample at the head of such a block, loaded in a region that draws its order -/
theorem exec_load_ask {oi : Oper} {a : Act} {w : World} (x : Operand) (ho : oi.op = .load 24 x) (g : Nat) (hx : a.eval x = .pointer (some ⟨g, 0, none⟩)) (q : Q) (s : S) (A : Option Addr) (n c : Nat) (hg : w.heap[g]? = some (.cells (q.cs s A n c) 28 (0, 0))) :
    (execOp a.eval oi).run Try.prog w = .ok (.value (.agg (s.cs A n c))) w := by
  have hc : w.rangeAt g 0 (s.cs A n c).toList := by
    intro j v hj
    rw [Nat.zero_add, bkCell hg j]
    have hl : j < 13 := by
      have := (List.getElem?_eq_some_iff.1 hj).1
      simpa [S.cs] using this
    have e : ∀ j, j < 13 → (q.cs s A n c)[j]? = (s.cs A n c).toList[j]? := by
      intro j hj
      rcases (by omega : j = 0 ∨ j = 1 ∨ j = 2 ∨ j = 3 ∨ j = 4 ∨ j = 5 ∨ j = 6 ∨ j = 7 ∨ j = 8 ∨ j = 9 ∨ j = 10 ∨ j = 11 ∨ j = 12) with rfl | rfl | rfl | rfl | rfl | rfl | rfl | rfl | rfl | rfl | rfl | rfl | rfl <;> rfl
    rw [e j hl]
    exact hj
  have := run_loadVar_mid (P := Try.prog) w g 0 24 (s.cs A n c).toList _ hc Try.underlying24 rfl (by simpa using S.i24 s A n c)
  unfold execOp
  simp only [ho, hx, Instr.loadAt, Instr.sureAddr, Sem.run_bind, Sem.run_pure, Result.andThen_ok, this, Array.toArray_toList]
set_option maxHeartbeats 16000000 in
set_option maxRecDepth 100000 in
theorem unrolls_bad (q : Q) (s : S) (A : Option Addr) (n c0 b o : Nat) (xs : Nat → Int) (M : Nat) (hM : q.nn % 512 = M) (hv : vS s n xs = false) (hn : n ≤ 9223372036854775807) (hc0 : n ≤ c0) (w : World) (hA : DataAt w A n b o xs) : Calls Try.prog 6 #[.agg (q.cs s A n c0)] w fun e w' => e = .returned (.bool true) ∧ Below w.heap.size w w' := by
  have B0 : Below w.heap.size w (w.alloc (Obj.cells (q.cs s A n c0) 28)) := (Below.refl _ _).alloc (Nat.le_refl _) _
  have P0 := Lib.hid (show (w.alloc (Obj.cells (q.cs s A n c0) 28)).heap[w.heap.size]? = some (.cells (q.cs s A n c0) 28 (0, 0)) from heap_alloc_new w _)
  have D0 := Lib.hid (hA.later B0)
  have VC := Lib.hid (show ∀ (W : World), DataAt W A n b o xs → Calls Try.prog 15 #[.agg (s.cs A n c0)] W fun e w' => e = .returned (.bool false) ∧ Below W.heap.size W w' from fun W h => by have := valid_any s A n c0 b o xs hn hc0 W h; rwa [hv] at this)
  have UQ := Lib.hid (show ∀ W : World, DataAt W A n b o xs → Calls Try.prog 21 #[.agg (s.cs A n c0), iv M, .bool q.he] W fun e w' => ∃ A' c' b' o', e = .returned (.tuple #[.slice A' 0 c', iv 1]) ∧ DataAt w' A' 0 b' o' (unrF s n xs q.he) ∧ Below W.heap.size W w' from fun W h => by
    have := sunroll_any s A n c0 b o xs M q.he hn hc0 W h
    rw [show unrN s n xs M = 0 from if_neg (by rw [hv]; simp), show unrE s n xs M = 1 from if_neg (by rw [hv]; simp)] at this
    exact this.mono fun e w' ⟨A', c', b', o', h1, h2, h3, h4⟩ => ⟨A', c', b', o', h1, h2, h4⟩)
  have y19 : (q.cs s A n c0)[19]? = some (iv q.nn) := rfl
  have y26 : (q.cs s A n c0)[26]? = some (.bool q.he) := rfl
  have hand : bits .and .i64 q.nn 511 = (M : Int) := (and9 q.nn).trans hM
  have hM5 : (M : Int) ≤ 511 := by omega
  clear hA hv hM
  go_enter Try.func6, Try.ntmps6
  go_upto_region 3 with (first
    | (refine wpLoadAsk rfl _ rfl (w.heap.size) rfl q s A n c0 P0.out ?_)
    | (go_at_call 21; (with_reducible refine (UQ.out _ D0.out).mono ?_); rintro e w1 ⟨A1, c1, b1, o1, rfl, X1, hb1⟩; have P1 := Lib.hid (bkBelow P0.out hb1); have D1 := Lib.hid (D0.out.later hb1); have B1 := bdT B0 B0.size hb1; have L1 := Lib.hid X1; clear X1))
  clear y19 y26 hand
  go_wp2_with (first
    | (refine gdOn (by rfl) ?_; refine wpLoadAsk rfl _ rfl (w.heap.size) rfl q s A n c0 P1.out ?_)
    | (go_at_call 15; (with_reducible refine (VC.out _ D1.out).mono ?_); rintro e w2 ⟨rfl, hb2⟩; have P2 := Lib.hid (bkBelow P1.out hb2); have D2 := Lib.hid (D1.out.later hb2); have B2 := bdT B1 B1.size hb2; clear P1 D1)
    | (go_at_call 16; (with_reducible refine (awake_any _).mono ?_); rintro e wz ⟨rfl, hbz⟩))
  go_ret
  exact ⟨rfl, bdT B2 B2.size hbz⟩
set_option maxHeartbeats 16000000 in
set_option maxRecDepth 100000 in
theorem unrolls_ok (q : Q) (s : S) (A : Option Addr) (n c0 b o : Nat) (xs : Nat → Int) (M : Nat) (hM : q.nn % 512 = M) (hv : vS s n xs = true) (hn : n ≤ 9223372036854775807) (hc0 : n ≤ c0) (w : World) (hA : DataAt w A n b o xs) : Calls Try.prog 6 #[.agg (q.cs s A n c0)] w fun e w' => e = .returned (.bool true) ∧ Below w.heap.size w w' := by
  have B0 : Below w.heap.size w (w.alloc (Obj.cells (q.cs s A n c0) 28)) := (Below.refl _ _).alloc (Nat.le_refl _) _
  have P0 := Lib.hid (show (w.alloc (Obj.cells (q.cs s A n c0) 28)).heap[w.heap.size]? = some (.cells (q.cs s A n c0) 28 (0, 0)) from heap_alloc_new w _)
  have D0 := Lib.hid (hA.later B0)
  have UQ := Lib.hid (show ∀ W : World, DataAt W A n b o xs → Calls Try.prog 21 #[.agg (s.cs A n c0), iv M, .bool q.he] W fun e w' => ∃ A' c' b' o', e = .returned (.tuple #[.slice A' M c', iv 0]) ∧ DataAt w' A' M b' o' (unrF s n xs q.he) ∧ Below W.heap.size W w' from fun W h => by
    have := sunroll_any s A n c0 b o xs M q.he hn hc0 W h
    rw [show unrN s n xs M = M from if_pos ⟨hv, by omega, by omega⟩, show unrE s n xs M = 0 from by unfold unrE; rw [if_pos hv, if_pos (by omega)]] at this
    exact this.mono fun e w' ⟨A', c', b', o', h1, h2, h3, h4⟩ => ⟨A', c', b', o', h1, h2, h4⟩)
  have y19 : (q.cs s A n c0)[19]? = some (iv q.nn) := rfl
  have y26 : (q.cs s A n c0)[26]? = some (.bool q.he) := rfl
  have hand : bits .and .i64 q.nn 511 = (M : Int) := (and9 q.nn).trans hM
  have hM5 : (M : Int) ≤ 511 := by omega
  have l0 : (0 : Int) ≤ (M : Int) := by omega
  have KB := Lib.hid fun (W : World) (h : DataAt W A n b o xs) => sbegin_any s A n c0 b o xs 0 false (by omega) hn hc0 W h
  rw [show beginA s n xs 0 false = begM n 0 false from if_pos hv] at KB
  have HD := Lib.hid hA
  have HV := Lib.hid hv
  have HN := Lib.hid hn
  have HC0 := Lib.hid hc0
  clear hA hv hM
  go_enter Try.func6, Try.ntmps6
  go_upto_region 3 with (first
    | (refine wpLoadAsk rfl _ rfl (w.heap.size) rfl q s A n c0 P0.out ?_)
    | (go_at_call 21; (with_reducible refine (UQ.out _ D0.out).mono ?_); rintro e w1 ⟨A1, c1, b1, o1, rfl, X1, hb1⟩; have P1 := Lib.hid (bkBelow P0.out hb1); have D1 := Lib.hid (D0.out.later hb1); have B1 := bdT B0 B0.size hb1; have L1 := Lib.hid X1; have HLO' := Lib.hid X1.low; clear X1))
  clear y19 y26 hand
  have e2 : ((M : Int) != (M : Int)) = false := by simp
  go_upto_region 8 with (first
    | (refine wpLoadAsk rfl _ rfl (w.heap.size) rfl q s A n c0 P1.out ?_)
    | (go_at_call 17; (with_reducible refine (KB.out _ D1.out).mono ?_); rintro e w2 ⟨rfl, hb2⟩; have P2 := Lib.hid (bkBelow P1.out hb2); have HP2 := Lib.hid (And.intro (bkLt P2.out) (Nat.lt_of_lt_of_le (bkLt P1.out) (Nat.le_refl _))); have HS2 := Lib.hid hb2.size; have D2 := Lib.hid (D1.out.later hb2); have L2 := Lib.hid (L1.out.later hb2); have B2 := bdT B1 B1.size hb2; clear P1 D1 L1)
    | (refine wpList_store_row rfl 26 (.tmp 6) (.tmp 39) rfl (w2.heap.size) (Cur.cs (begM n 0 false)) rfl rfl 26 _ (heap_alloc_new w2 (Obj.cells #[iv 0, iv 0, .bool false, .bool false] 26)) (Cur.i26 _) (Cur.sz Cur.zero _) (Cur.one _) ?_; have K3 := below_setRow ((Below.refl w2.heap.size w2).alloc (Nat.le_refl _) (Obj.cells #[iv 0, iv 0, .bool false, .bool false] 26)) (g := w2.heap.size) (Nat.le_refl _) (Cur.cs (begM n 0 false)); have P3 := Lib.hid (bkBelow P2.out K3); have D3 := Lib.hid (D2.out.later K3); have L3 := Lib.hid (L2.out.later K3); have B3 := bdT B2 B2.size K3; have C3 := Lib.hid (setRow_heap _ _ _ (Cur.cs (begM n 0 false)) _ _ (heap_alloc_new w2 (Obj.cells #[iv 0, iv 0, .bool false, .bool false] 26))); clear P2 D2 L2))
  clear e2
  go_upto_region 9 with (fail)
  go_loopw [7] (fun v wr => ∃ j : Nat, j ≤ M ∧ v = iv j ∧ wr.heap[w.heap.size]? = some (.cells (q.cs s A n c0) 28 (0, 0)) ∧ wr.heap[w2.heap.size]? = some (.cells (Cur.cs (walkC s n q.he j)) 26 (0, 0)) ∧ DataAt wr A1 M b1 o1 (unrF s n xs q.he) ∧ Below w.heap.size w wr) (fun v _ => M - (intOf v).toNat)
  case atStart => exact ⟨0, by omega, rfl, P3.out, by rw [walk_zero]; exact C3.out, L3.out, B3⟩
  case round =>
    clear P3 D3 C3 B3 L3
    obtain ⟨j, hj, rfl, hP, hC, hL, hB⟩ := hrel
    have P10 := Lib.hid hP
    have C10 := Lib.hid hC
    have L10' := Lib.hid hL
    have D10 := Lib.hid (HD.out.later hB)
    have NB := Lib.hid hB
    have l3 : (0 : Int) ≤ (j : Int) := by omega
    clear hP hC hL hB
    by_cases hlt : j < M
    · have l4 : (j : Int) < (M : Int) := by omega
      have HJ := Lib.hid hlt
      have HLO := Lib.hid (HLO'.out (by omega))
      have tL := L10'.out.top (by omega)
      subst tL
      have L10 := Lib.hid L10'.out
      clear L10'
      obtain ⟨u, hu⟩ : ∃ u, iv (unrF s n xs q.he j) = iv u := ⟨_, rfl⟩
      have hu2 : unrF s n xs q.he j = u := by simpa using hu
      have S0 := Lib.hid ((L10.out.cell j hlt).trans (congrArg some hu))
      have HU := Lib.hid (congrArg some hu)
      have TQ := Lib.hid (show ∀ W : World, DataAt W A n b o xs → Calls Try.prog 22 #[.agg (s.cs A n c0), .agg (Cur.cs (walkC s n q.he j)), iv 0, .bool q.he] W fun e w' => e = .returned (iv u) ∧ Below W.heap.size W w' from fun W h => by
        have := stap_any s A n c0 b o xs (walkC s n q.he j) 0 q.he HN.out HC0.out W h
        rwa [show tapA s n xs (walkC s n q.he j) 0 q.he = u from by unfold tapA; rw [if_pos ⟨HV.out, okB_iff.2 (walk_ok (vS_loops HV.out) j), by omega, by omega⟩, ← unr_def, hu2]] at this)
      have MQ := Lib.hid (show ∀ W : World, DataAt W A n b o xs → Calls Try.prog 18 #[.agg (s.cs A n c0), .agg (Cur.cs (walkC s n q.he j)), iv 65536, .bool q.he] W fun e w' => e = .returned (.tuple #[.agg (Cur.cs (walkC s n q.he (j + 1))), iv 0]) ∧ Below W.heap.size W w' from fun W h => by
        have := smove_any s A n c0 b o xs (walkC s n q.he j) 65536 q.he HN.out HC0.out W h
        rwa [show moveA s n xs (walkC s n q.he j) 65536 q.he = (walkC s n q.he (j + 1), 0) from by unfold moveA; rw [if_pos ⟨HV.out, okB_iff.2 (walk_ok (vS_loops HV.out) j)⟩, if_neg (by omega), walk_succ]] at this)
      have e1 : (u != u) = false := by simp
      clear hu hu2
      cases hd : (walkC s n q.he j).done
      · have HDn := Lib.hid hd
        clear hd
        go_upto_region 11 with (fail)
        refine start_ (n := 22) (S := fun w' => w'.cell? ⟨b1, o1 + j, none⟩ = some (iv u) ∧ w'.heap[w.heap.size]? = some (.cells (q.cs s A n c0) 28 (0, 0)) ∧ w'.heap[w2.heap.size]? = some (.cells (Cur.cs (walkC s n q.he j)) 26 (0, 0)) ∧ DataAt w' A n b o xs ∧ Below w.heap.size w w' ∧ DataAt w' (some ⟨b1, o1, none⟩) M b1 o1 (unrF s n xs q.he)) (ds := []) #[false, false, false, false, false, false, false, false, false, false, false, false, false, false, false, false, false, false, false, false, false, false] (by kernel_rfl) rfl rfl ⟨S0.out, P10.out, C10.out, drewD D10.out, NB.out.drew, drewD L10.out⟩ (fun hHeld => ?_)
        refine pure_ (i := 0) (N := some 45) (v := ?_) (a' := ?_) #[true, false, false, false, false, false, false, false, false, false, false, false, false, false, false, false, false, false, false, false, false, false] rfl rfl (by kernel_rfl) (fun _ _ _ h => h) (Or.inl ⟨by rfl, ?_⟩) ?_ ?_
        rotate_left
        · intro w'
          go_simp
          with_reducible rfl
        rotate_left
        · simp only [Act.put, List.setIfInBounds_toArray, List.set_cons_zero, List.set_cons_succ, i64_w, i32_w, e1]
          rfl
        refine pure_ (i := 1) (N := some 46) (v := ?_) (a' := ?_) #[true, true, false, false, false, false, false, false, false, false, false, false, false, false, false, false, false, false, false, false, false, false] rfl rfl (by kernel_rfl) (fun _ _ _ h => h) (Or.inl ⟨by rfl, ?_⟩) ?_ ?_
        rotate_left
        · intro w'
          go_simp
          with_reducible rfl
        rotate_left
        · simp only [Act.put, List.setIfInBounds_toArray, List.set_cons_zero, List.set_cons_succ, i64_w, i32_w, e1]
          rfl
        refine pure_ (i := 2) (N := some 47) (v := ?_) (a' := ?_) #[true, true, true, false, false, false, false, false, false, false, false, false, false, false, false, false, false, false, false, false, false, false] rfl rfl (by kernel_rfl) (fun _ _ _ h => h) (Or.inl ⟨by rfl, ?_⟩) ?_ ?_
        rotate_left
        · intro w'
          go_simp
          with_reducible rfl
        rotate_left
        · simp only [Act.put, List.setIfInBounds_toArray, List.set_cons_zero, List.set_cons_succ, i64_w, i32_w, e1]
          rfl
        refine pure_ (i := 4) (N := some 49) (v := ?_) (a' := ?_) #[true, true, true, false, true, false, false, false, false, false, false, false, false, false, false, false, false, false, false, false, false, false] rfl rfl (by kernel_rfl) (fun _ _ _ h => h) (Or.inl ⟨by rfl, ?_⟩) ?_ ?_
        rotate_left
        · intro w'
          go_simp
          with_reducible rfl
        rotate_left
        · simp only [Act.put, List.setIfInBounds_toArray, List.set_cons_zero, List.set_cons_succ, i64_w, i32_w, e1]
          rfl
        refine pure_ (i := 7) (N := some 52) (v := ?_) (a' := ?_) #[true, true, true, false, true, false, false, true, false, false, false, false, false, false, false, false, false, false, false, false, false, false] rfl rfl (by kernel_rfl) (fun _ _ _ h => h) (Or.inl ⟨by rfl, ?_⟩) ?_ ?_
        rotate_left
        · intro w'
          go_simp
          with_reducible rfl
        rotate_left
        · simp only [Act.put, List.setIfInBounds_toArray, List.set_cons_zero, List.set_cons_succ, i64_w, i32_w, e1]
          rfl
        refine take_ (i := 3) (N := some 48) (v := ?_) (a' := ?_) #[true, true, true, true, true, false, false, true, false, false, false, false, false, false, false, false, false, false, false, false, false, false] rfl rfl (by kernel_rfl) (fun _ _ _ h => h) (Or.inl ⟨by rfl, ?_⟩) hHeld ?_ ?_
        rotate_left
        · rintro w' ⟨s0, s1, s2, s3, s4, s5⟩
          clear s1 s2 s3 s4 s5
          go_simp
          with_reducible rfl
        rotate_left
        · simp only [Act.put, List.setIfInBounds_toArray, List.set_cons_zero, List.set_cons_succ, i64_w, i32_w, e1]
          rfl
        refine take_ (i := 5) (N := some 50) (v := ?_) (a' := ?_) #[true, true, true, true, true, true, false, true, false, false, false, false, false, false, false, false, false, false, false, false, false, false] rfl rfl (by kernel_rfl) (fun _ _ _ h => h) (Or.inl ⟨by rfl, ?_⟩) hHeld ?_ ?_
        rotate_left
        · rintro w' ⟨s0, s1, s2, s3, s4, s5⟩
          refine exec_load_ask (.tmp 49) ?_ (w.heap.size) ?_ q s A n c0 s1 <;> rfl
        rotate_left
        · simp only [Act.put, List.setIfInBounds_toArray, List.set_cons_zero, List.set_cons_succ, i64_w, i32_w, e1]
          rfl
        refine take_ (i := 6) (N := some 51) (v := ?_) (a' := ?_) #[true, true, true, true, true, true, true, true, false, false, false, false, false, false, false, false, false, false, false, false, false, false] rfl rfl (by kernel_rfl) (fun _ _ _ h => h) (Or.inl ⟨by rfl, ?_⟩) hHeld ?_ ?_
        rotate_left
        · rintro w' ⟨s0, s1, s2, s3, s4, s5⟩
          refine exec_load_row 26 (.tmp 6) ?_ (w2.heap.size) ?_ 26 _ _ _ s2 Try.underlying26 rfl (Cur.i26 _) <;> rfl
        rotate_left
        · simp only [Act.put, List.setIfInBounds_toArray, List.set_cons_zero, List.set_cons_succ, i64_w, i32_w, e1]
          rfl
        refine take_ (i := 8) (N := some 53) (v := ?_) (a' := ?_) #[true, true, true, true, true, true, true, true, true, false, false, false, false, false, false, false, false, false, false, false, false, false] rfl rfl (by kernel_rfl) (fun _ _ _ h => h) (Or.inl ⟨by rfl, ?_⟩) hHeld ?_ ?_
        rotate_left
        · rintro w' ⟨s0, s1, s2, s3, s4, s5⟩
          have z26 := (bkCell s1 26).trans (show _ = some (.bool q.he) from rfl)
          clear s0 s1 s2 s3 s4 s5
          go_simp
          with_reducible rfl
        rotate_left
        · simp only [Act.put, List.setIfInBounds_toArray, List.set_cons_zero, List.set_cons_succ, i64_w, i32_w, e1]
          rfl
        refine one_ (i := 9) (N := some 54) #[true, true, true, true, true, true, true, true, true, true, false, false, false, false, false, false, false, false, false, false, false, false] rfl rfl (by kernel_rfl) (by decide) (fun K hK => ?_)
        obtain ⟨s0, s1, s2, s3, s4, s5⟩ := hHeld
        refine goes_ Try.func22 (by kernel_rfl) rfl #[.agg (s.cs A n c0), .agg (Cur.cs (walkC s n q.he j)), iv 0, .bool q.he] (by rfl) rfl rfl (by simp only [List.map_toArray, List.map_cons, List.map_nil]; rfl) ?_
        with_reducible refine (TQ.out _ s3).mono ?_
        rintro e w4 ⟨rfl, hb4⟩
        refine ⟨_, rfl, ?_⟩
        have t1 := bkBelow s1 hb4
        have t2 := bkBelow s2 hb4
        have t3 := s3.later hb4
        have t4 := bdT s4 s4.size hb4
        have t5 := s5.later hb4
        have t0 := (t5.cell j HJ.out).trans HU.out
        have NW := Lib.hid (And.intro t1 (And.intro t2 (And.intro t3 (And.intro t4 t5))))
        have T0 := Lib.hid t0
        clear t0 t1 t2 t3 t4 t5 s0 s1 s2 s3 s4 s5
        refine hK.out _ _ ⟨T0.out, NW.out.1, NW.out.2.1, NW.out.2.2.1, NW.out.2.2.2.1, NW.out.2.2.2.2⟩ (fun hHeld => ?_)
        clear hK K
        refine norm_ (a' := ?_) ?_ ?_
        rotate_left
        · show Act.put _ (some 54) _ = _
          simp only [Act.put, List.setIfInBounds_toArray, List.set_cons_zero, List.set_cons_succ, i64_w, i32_w, e1]
          rfl
        refine pure_ (i := 10) (N := some 55) (v := ?_) (a' := ?_) #[true, true, true, true, true, true, true, true, true, true, true, false, false, false, false, false, false, false, false, false, false, false] rfl rfl (by kernel_rfl) (fun _ _ _ h => h) (Or.inl ⟨by rfl, ?_⟩) ?_ ?_
        rotate_left
        · intro w'
          go_simp
          with_reducible rfl
        rotate_left
        · simp only [Act.put, List.setIfInBounds_toArray, List.set_cons_zero, List.set_cons_succ, i64_w, i32_w, e1]
          rfl
        refine pure_ (i := 11) (N := some 56) (v := ?_) (a' := ?_) #[true, true, true, true, true, true, true, true, true, true, true, true, false, false, false, false, false, false, false, false, false, false] rfl rfl (by kernel_rfl) (fun _ _ _ h => h) (Or.inl ⟨by rfl, ?_⟩) ?_ ?_
        rotate_left
        · intro w'
          go_simp
          with_reducible rfl
        rotate_left
        · simp only [Act.put, List.setIfInBounds_toArray, List.set_cons_zero, List.set_cons_succ, i64_w, i32_w, e1]
          rfl
        refine pure_ (i := 12) (N := some 57) (v := ?_) (a' := ?_) #[true, true, true, true, true, true, true, true, true, true, true, true, true, false, false, false, false, false, false, false, false, false] rfl rfl (by kernel_rfl) (fun _ _ _ h => h) (Or.inl ⟨by rfl, ?_⟩) ?_ ?_
        rotate_left
        · intro w'
          go_simp
          with_reducible rfl
        rotate_left
        · simp only [Act.put, List.setIfInBounds_toArray, List.set_cons_zero, List.set_cons_succ, i64_w, i32_w, e1]
          rfl
        refine take_ (i := 13) (N := some 58) (v := ?_) (a' := ?_) #[true, true, true, true, true, true, true, true, true, true, true, true, true, true, false, false, false, false, false, false, false, false] rfl rfl (by kernel_rfl) (fun _ _ _ h => h) (Or.inl ⟨by rfl, ?_⟩) hHeld ?_ ?_
        rotate_left
        · rintro w' ⟨s0, s1, s2, s3, s4, s5⟩
          have k3 := (bkCell s2 3).trans (show _ = some (.bool (walkC s n q.he j).done) from rfl)
          rw [HDn.out] at k3
          clear s0 s1 s2 s3 s4 s5
          go_simp
          with_reducible rfl
        rotate_left
        · simp only [Act.put, List.setIfInBounds_toArray, List.set_cons_zero, List.set_cons_succ, i64_w, i32_w, e1]
          rfl
        refine pure_ (i := 14) (N := some 59) (v := ?_) (a' := ?_) #[true, true, true, true, true, true, true, true, true, true, true, true, true, true, true, false, false, false, false, false, false, false] rfl rfl (by kernel_rfl) (fun _ _ _ h => h) (Or.inl ⟨by rfl, ?_⟩) ?_ ?_
        rotate_left
        · intro w'
          go_simp
          with_reducible rfl
        rotate_left
        · simp only [Act.put, List.setIfInBounds_toArray, List.set_cons_zero, List.set_cons_succ, i64_w, i32_w, e1]
          rfl
        refine pure_ (i := 15) (N := some 60) (v := undef) (a' := ?_) #[true, true, true, true, true, true, true, true, true, true, true, true, true, true, true, true, false, false, false, false, false, false] rfl rfl (by kernel_rfl) (fun _ _ _ h => h) (Or.inr ⟨by rfl, rfl⟩) ?_ ?_
        rotate_left
        · simp only [Act.put, List.setIfInBounds_toArray, List.set_cons_zero, List.set_cons_succ, i64_w, i32_w, e1]
          rfl
        refine pure_ (i := 16) (N := some 61) (v := undef) (a' := ?_) #[true, true, true, true, true, true, true, true, true, true, true, true, true, true, true, true, true, false, false, false, false, false] rfl rfl (by kernel_rfl) (fun _ _ _ h => h) (Or.inr ⟨by rfl, rfl⟩) ?_ ?_
        rotate_left
        · simp only [Act.put, List.setIfInBounds_toArray, List.set_cons_zero, List.set_cons_succ, i64_w, i32_w, e1]
          rfl
        refine pure_ (i := 17) (N := some 62) (v := undef) (a' := ?_) #[true, true, true, true, true, true, true, true, true, true, true, true, true, true, true, true, true, true, false, false, false, false] rfl rfl (by kernel_rfl) (fun _ _ _ h => h) (Or.inr ⟨by rfl, rfl⟩) ?_ ?_
        rotate_left
        · simp only [Act.put, List.setIfInBounds_toArray, List.set_cons_zero, List.set_cons_succ, i64_w, i32_w, e1]
          rfl
        refine pure_ (i := 18) (N := some 63) (v := undef) (a' := ?_) #[true, true, true, true, true, true, true, true, true, true, true, true, true, true, true, true, true, true, true, false, false, false] rfl rfl (by kernel_rfl) (fun _ _ _ h => h) (Or.inr ⟨by rfl, rfl⟩) ?_ ?_
        rotate_left
        · simp only [Act.put, List.setIfInBounds_toArray, List.set_cons_zero, List.set_cons_succ, i64_w, i32_w, e1]
          rfl
        refine pure_ (i := 19) (N := some 64) (v := undef) (a' := ?_) #[true, true, true, true, true, true, true, true, true, true, true, true, true, true, true, true, true, true, true, true, false, false] rfl rfl (by kernel_rfl) (fun _ _ _ h => h) (Or.inr ⟨by rfl, rfl⟩) ?_ ?_
        rotate_left
        · simp only [Act.put, List.setIfInBounds_toArray, List.set_cons_zero, List.set_cons_succ, i64_w, i32_w, e1]
          rfl
        refine pure_ (i := 20) (N := some 65) (v := ?_) (a' := ?_) #[true, true, true, true, true, true, true, true, true, true, true, true, true, true, true, true, true, true, true, true, true, false] rfl rfl (by kernel_rfl) (fun _ _ _ h => h) (Or.inl ⟨by rfl, ?_⟩) ?_ ?_
        rotate_left
        · intro w'
          go_simp
          with_reducible rfl
        rotate_left
        · simp only [Act.put, List.setIfInBounds_toArray, List.set_cons_zero, List.set_cons_succ, i64_w, i32_w, e1]
          rfl
        refine pure_ (i := 21) (N := some 66) (v := ?_) (a' := ?_) #[true, true, true, true, true, true, true, true, true, true, true, true, true, true, true, true, true, true, true, true, true, true] rfl rfl (by kernel_rfl) (fun _ _ _ h => h) (Or.inl ⟨by rfl, ?_⟩) ?_ ?_
        rotate_left
        · intro w'
          go_simp
          with_reducible rfl
        rotate_left
        · simp only [Act.put, List.setIfInBounds_toArray, List.set_cons_zero, List.set_cons_succ, i64_w, i32_w, e1]
          rfl
        refine done_ (by kernel_rfl) ?_
        clear e1 S0 P10 C10 D10 L10
        have z26 := (bkCell NW.out.1 26).trans (show _ = some (.bool q.he) from rfl)
        have P14 := Lib.hid NW.out.1
        have C14 := Lib.hid NW.out.2.1
        have D14 := Lib.hid NW.out.2.2.1
        have B14 := NW.out.2.2.2.1
        have L14 := Lib.hid NW.out.2.2.2.2
        clear NW NB
        go_wp2_with (first
          | (refine wpLoadAsk rfl _ rfl (w.heap.size) rfl q s A n c0 P14.out ?_)
          | (refine wpList_load_row rfl 26 (.tmp 6) rfl (w2.heap.size) rfl 26 _ (0, 0) _ C14.out Try.underlying26 rfl (Cur.i26 _) ?_)
          | (go_at_call 18; (with_reducible refine (MQ.out _ D14.out).mono ?_); rintro e w15 ⟨rfl, hb15⟩; have P15 := Lib.hid (bkBelow P14.out hb15); have C15 := Lib.hid (bkBelow C14.out hb15); have D15 := Lib.hid (D14.out.later hb15); have L15 := Lib.hid (L14.out.later hb15); have B15 := bdT B14 B14.size hb15; clear P14 C14 D14 L14)
          | (refine wpList_store_row rfl 26 (.tmp 6) (.tmp 74) rfl (w2.heap.size) (Cur.cs (walkC s n q.he (j + 1))) rfl rfl 26 _ C15.out (Cur.i26 _) (Cur.sz _ _) (Cur.one _) ?_))
        have hg := HP2.out
        have hs2 := HS2.out
        have hlo := HLO.out
        exact ⟨⟨j + 1, by omega, by go_num, (setRow_other _ w2.heap.size w.heap.size _ (by omega)).trans P15.out, setRow_heap _ _ _ _ _ _ C15.out, L15.out.setRow (fun _ => by omega) _, below_setRow B15 (by omega) _⟩, by simp [intOf]; omega⟩
      · have HDn := Lib.hid hd
        obtain rfl : u = 0 := by
          have h1 := unr_done (xs := xs) hd (Nat.le_refl j)
          have h2 := HU.out
          rw [h1] at h2
          simpa using h2.symm
        clear hd
        go_upto_region 11 with (fail)
        refine start_ (n := 22) (S := fun w' => w'.cell? ⟨b1, o1 + j, none⟩ = some (iv 0) ∧ w'.heap[w.heap.size]? = some (.cells (q.cs s A n c0) 28 (0, 0)) ∧ w'.heap[w2.heap.size]? = some (.cells (Cur.cs (walkC s n q.he j)) 26 (0, 0)) ∧ DataAt w' A n b o xs ∧ Below w.heap.size w w' ∧ DataAt w' (some ⟨b1, o1, none⟩) M b1 o1 (unrF s n xs q.he)) (ds := []) #[false, false, false, false, false, false, false, false, false, false, false, false, false, false, false, false, false, false, false, false, false, false] (by kernel_rfl) rfl rfl ⟨S0.out, P10.out, C10.out, drewD D10.out, NB.out.drew, drewD L10.out⟩ (fun hHeld => ?_)
        refine pure_ (i := 0) (N := some 45) (v := ?_) (a' := ?_) #[true, false, false, false, false, false, false, false, false, false, false, false, false, false, false, false, false, false, false, false, false, false] rfl rfl (by kernel_rfl) (fun _ _ _ h => h) (Or.inl ⟨by rfl, ?_⟩) ?_ ?_
        rotate_left
        · intro w'
          go_simp
          with_reducible rfl
        rotate_left
        · simp only [Act.put, List.setIfInBounds_toArray, List.set_cons_zero, List.set_cons_succ, i64_w, i32_w, e1]
          rfl
        refine pure_ (i := 1) (N := some 46) (v := ?_) (a' := ?_) #[true, true, false, false, false, false, false, false, false, false, false, false, false, false, false, false, false, false, false, false, false, false] rfl rfl (by kernel_rfl) (fun _ _ _ h => h) (Or.inl ⟨by rfl, ?_⟩) ?_ ?_
        rotate_left
        · intro w'
          go_simp
          with_reducible rfl
        rotate_left
        · simp only [Act.put, List.setIfInBounds_toArray, List.set_cons_zero, List.set_cons_succ, i64_w, i32_w, e1]
          rfl
        refine pure_ (i := 2) (N := some 47) (v := ?_) (a' := ?_) #[true, true, true, false, false, false, false, false, false, false, false, false, false, false, false, false, false, false, false, false, false, false] rfl rfl (by kernel_rfl) (fun _ _ _ h => h) (Or.inl ⟨by rfl, ?_⟩) ?_ ?_
        rotate_left
        · intro w'
          go_simp
          with_reducible rfl
        rotate_left
        · simp only [Act.put, List.setIfInBounds_toArray, List.set_cons_zero, List.set_cons_succ, i64_w, i32_w, e1]
          rfl
        refine pure_ (i := 4) (N := some 49) (v := ?_) (a' := ?_) #[true, true, true, false, true, false, false, false, false, false, false, false, false, false, false, false, false, false, false, false, false, false] rfl rfl (by kernel_rfl) (fun _ _ _ h => h) (Or.inl ⟨by rfl, ?_⟩) ?_ ?_
        rotate_left
        · intro w'
          go_simp
          with_reducible rfl
        rotate_left
        · simp only [Act.put, List.setIfInBounds_toArray, List.set_cons_zero, List.set_cons_succ, i64_w, i32_w, e1]
          rfl
        refine pure_ (i := 7) (N := some 52) (v := ?_) (a' := ?_) #[true, true, true, false, true, false, false, true, false, false, false, false, false, false, false, false, false, false, false, false, false, false] rfl rfl (by kernel_rfl) (fun _ _ _ h => h) (Or.inl ⟨by rfl, ?_⟩) ?_ ?_
        rotate_left
        · intro w'
          go_simp
          with_reducible rfl
        rotate_left
        · simp only [Act.put, List.setIfInBounds_toArray, List.set_cons_zero, List.set_cons_succ, i64_w, i32_w, e1]
          rfl
        refine take_ (i := 3) (N := some 48) (v := ?_) (a' := ?_) #[true, true, true, true, true, false, false, true, false, false, false, false, false, false, false, false, false, false, false, false, false, false] rfl rfl (by kernel_rfl) (fun _ _ _ h => h) (Or.inl ⟨by rfl, ?_⟩) hHeld ?_ ?_
        rotate_left
        · rintro w' ⟨s0, s1, s2, s3, s4, s5⟩
          clear s1 s2 s3 s4 s5
          go_simp
          with_reducible rfl
        rotate_left
        · simp only [Act.put, List.setIfInBounds_toArray, List.set_cons_zero, List.set_cons_succ, i64_w, i32_w, e1]
          rfl
        refine take_ (i := 5) (N := some 50) (v := ?_) (a' := ?_) #[true, true, true, true, true, true, false, true, false, false, false, false, false, false, false, false, false, false, false, false, false, false] rfl rfl (by kernel_rfl) (fun _ _ _ h => h) (Or.inl ⟨by rfl, ?_⟩) hHeld ?_ ?_
        rotate_left
        · rintro w' ⟨s0, s1, s2, s3, s4, s5⟩
          refine exec_load_ask (.tmp 49) ?_ (w.heap.size) ?_ q s A n c0 s1 <;> rfl
        rotate_left
        · simp only [Act.put, List.setIfInBounds_toArray, List.set_cons_zero, List.set_cons_succ, i64_w, i32_w, e1]
          rfl
        refine take_ (i := 6) (N := some 51) (v := ?_) (a' := ?_) #[true, true, true, true, true, true, true, true, false, false, false, false, false, false, false, false, false, false, false, false, false, false] rfl rfl (by kernel_rfl) (fun _ _ _ h => h) (Or.inl ⟨by rfl, ?_⟩) hHeld ?_ ?_
        rotate_left
        · rintro w' ⟨s0, s1, s2, s3, s4, s5⟩
          refine exec_load_row 26 (.tmp 6) ?_ (w2.heap.size) ?_ 26 _ _ _ s2 Try.underlying26 rfl (Cur.i26 _) <;> rfl
        rotate_left
        · simp only [Act.put, List.setIfInBounds_toArray, List.set_cons_zero, List.set_cons_succ, i64_w, i32_w, e1]
          rfl
        refine take_ (i := 8) (N := some 53) (v := ?_) (a' := ?_) #[true, true, true, true, true, true, true, true, true, false, false, false, false, false, false, false, false, false, false, false, false, false] rfl rfl (by kernel_rfl) (fun _ _ _ h => h) (Or.inl ⟨by rfl, ?_⟩) hHeld ?_ ?_
        rotate_left
        · rintro w' ⟨s0, s1, s2, s3, s4, s5⟩
          have z26 := (bkCell s1 26).trans (show _ = some (.bool q.he) from rfl)
          clear s0 s1 s2 s3 s4 s5
          go_simp
          with_reducible rfl
        rotate_left
        · simp only [Act.put, List.setIfInBounds_toArray, List.set_cons_zero, List.set_cons_succ, i64_w, i32_w, e1]
          rfl
        refine one_ (i := 9) (N := some 54) #[true, true, true, true, true, true, true, true, true, true, false, false, false, false, false, false, false, false, false, false, false, false] rfl rfl (by kernel_rfl) (by decide) (fun K hK => ?_)
        obtain ⟨s0, s1, s2, s3, s4, s5⟩ := hHeld
        refine goes_ Try.func22 (by kernel_rfl) rfl #[.agg (s.cs A n c0), .agg (Cur.cs (walkC s n q.he j)), iv 0, .bool q.he] (by rfl) rfl rfl (by simp only [List.map_toArray, List.map_cons, List.map_nil]; rfl) ?_
        with_reducible refine (TQ.out _ s3).mono ?_
        rintro e w4 ⟨rfl, hb4⟩
        refine ⟨_, rfl, ?_⟩
        have t1 := bkBelow s1 hb4
        have t2 := bkBelow s2 hb4
        have t3 := s3.later hb4
        have t4 := bdT s4 s4.size hb4
        have t5 := s5.later hb4
        have t0 := (t5.cell j HJ.out).trans HU.out
        have NW := Lib.hid (And.intro t1 (And.intro t2 (And.intro t3 (And.intro t4 t5))))
        have T0 := Lib.hid t0
        clear t0 t1 t2 t3 t4 t5 s0 s1 s2 s3 s4 s5
        refine hK.out _ _ ⟨T0.out, NW.out.1, NW.out.2.1, NW.out.2.2.1, NW.out.2.2.2.1, NW.out.2.2.2.2⟩ (fun hHeld => ?_)
        clear hK K
        refine norm_ (a' := ?_) ?_ ?_
        rotate_left
        · show Act.put _ (some 54) _ = _
          simp only [Act.put, List.setIfInBounds_toArray, List.set_cons_zero, List.set_cons_succ, i64_w, i32_w, e1]
          rfl
        refine pure_ (i := 10) (N := some 55) (v := ?_) (a' := ?_) #[true, true, true, true, true, true, true, true, true, true, true, false, false, false, false, false, false, false, false, false, false, false] rfl rfl (by kernel_rfl) (fun _ _ _ h => h) (Or.inl ⟨by rfl, ?_⟩) ?_ ?_
        rotate_left
        · intro w'
          go_simp
          with_reducible rfl
        rotate_left
        · simp only [Act.put, List.setIfInBounds_toArray, List.set_cons_zero, List.set_cons_succ, i64_w, i32_w, e1]
          rfl
        refine pure_ (i := 11) (N := some 56) (v := ?_) (a' := ?_) #[true, true, true, true, true, true, true, true, true, true, true, true, false, false, false, false, false, false, false, false, false, false] rfl rfl (by kernel_rfl) (fun _ _ _ h => h) (Or.inl ⟨by rfl, ?_⟩) ?_ ?_
        rotate_left
        · intro w'
          go_simp
          with_reducible rfl
        rotate_left
        · simp only [Act.put, List.setIfInBounds_toArray, List.set_cons_zero, List.set_cons_succ, i64_w, i32_w, e1]
          rfl
        refine pure_ (i := 12) (N := some 57) (v := ?_) (a' := ?_) #[true, true, true, true, true, true, true, true, true, true, true, true, true, false, false, false, false, false, false, false, false, false] rfl rfl (by kernel_rfl) (fun _ _ _ h => h) (Or.inl ⟨by rfl, ?_⟩) ?_ ?_
        rotate_left
        · intro w'
          go_simp
          with_reducible rfl
        rotate_left
        · simp only [Act.put, List.setIfInBounds_toArray, List.set_cons_zero, List.set_cons_succ, i64_w, i32_w, e1]
          rfl
        refine take_ (i := 13) (N := some 58) (v := ?_) (a' := ?_) #[true, true, true, true, true, true, true, true, true, true, true, true, true, true, false, false, false, false, false, false, false, false] rfl rfl (by kernel_rfl) (fun _ _ _ h => h) (Or.inl ⟨by rfl, ?_⟩) hHeld ?_ ?_
        rotate_left
        · rintro w' ⟨s0, s1, s2, s3, s4, s5⟩
          have k3 := (bkCell s2 3).trans (show _ = some (.bool (walkC s n q.he j).done) from rfl)
          rw [HDn.out] at k3
          clear s0 s1 s2 s3 s4 s5
          go_simp
          with_reducible rfl
        rotate_left
        · simp only [Act.put, List.setIfInBounds_toArray, List.set_cons_zero, List.set_cons_succ, i64_w, i32_w, e1]
          rfl
        refine pure_ (i := 14) (N := some 59) (v := ?_) (a' := ?_) #[true, true, true, true, true, true, true, true, true, true, true, true, true, true, true, false, false, false, false, false, false, false] rfl rfl (by kernel_rfl) (fun _ _ _ h => h) (Or.inl ⟨by rfl, ?_⟩) ?_ ?_
        rotate_left
        · intro w'
          go_simp
          with_reducible rfl
        rotate_left
        · simp only [Act.put, List.setIfInBounds_toArray, List.set_cons_zero, List.set_cons_succ, i64_w, i32_w, e1]
          rfl
        refine pure_ (i := 15) (N := some 60) (v := ?_) (a' := ?_) #[true, true, true, true, true, true, true, true, true, true, true, true, true, true, true, true, false, false, false, false, false, false] rfl rfl (by kernel_rfl) (fun _ _ _ h => h) (Or.inl ⟨by rfl, ?_⟩) ?_ ?_
        rotate_left
        · intro w'
          go_simp
          with_reducible rfl
        rotate_left
        · simp only [Act.put, List.setIfInBounds_toArray, List.set_cons_zero, List.set_cons_succ, i64_w, i32_w, e1]
          rfl
        refine pure_ (i := 16) (N := some 61) (v := ?_) (a' := ?_) #[true, true, true, true, true, true, true, true, true, true, true, true, true, true, true, true, true, false, false, false, false, false] rfl rfl (by kernel_rfl) (fun _ _ _ h => h) (Or.inl ⟨by rfl, ?_⟩) ?_ ?_
        rotate_left
        · intro w'
          go_simp
          with_reducible rfl
        rotate_left
        · simp only [Act.put, List.setIfInBounds_toArray, List.set_cons_zero, List.set_cons_succ, i64_w, i32_w, e1]
          rfl
        refine pure_ (i := 17) (N := some 62) (v := ?_) (a' := ?_) #[true, true, true, true, true, true, true, true, true, true, true, true, true, true, true, true, true, true, false, false, false, false] rfl rfl (by kernel_rfl) (fun _ _ _ h => h) (Or.inl ⟨by rfl, ?_⟩) ?_ ?_
        rotate_left
        · intro w'
          go_simp
          with_reducible rfl
        rotate_left
        · simp only [Act.put, List.setIfInBounds_toArray, List.set_cons_zero, List.set_cons_succ, i64_w, i32_w, e1]
          rfl
        refine take_ (i := 18) (N := some 63) (v := ?_) (a' := ?_) #[true, true, true, true, true, true, true, true, true, true, true, true, true, true, true, true, true, true, true, false, false, false] rfl rfl (by kernel_rfl) (fun _ _ _ h => h) (Or.inl ⟨by rfl, ?_⟩) hHeld ?_ ?_
        rotate_left
        · rintro w' ⟨s0, s1, s2, s3, s4, s5⟩
          clear s1 s2 s3 s4 s5
          go_simp
          with_reducible rfl
        rotate_left
        · simp only [Act.put, List.setIfInBounds_toArray, List.set_cons_zero, List.set_cons_succ, i64_w, i32_w, e1]
          rfl
        refine pure_ (i := 19) (N := some 64) (v := ?_) (a' := ?_) #[true, true, true, true, true, true, true, true, true, true, true, true, true, true, true, true, true, true, true, true, false, false] rfl rfl (by kernel_rfl) (fun _ _ _ h => h) (Or.inl ⟨by rfl, ?_⟩) ?_ ?_
        rotate_left
        · intro w'
          go_simp
          with_reducible rfl
        rotate_left
        · simp only [Act.put, List.setIfInBounds_toArray, List.set_cons_zero, List.set_cons_succ, i64_w, i32_w, e1]
          rfl
        refine pure_ (i := 20) (N := some 65) (v := ?_) (a' := ?_) #[true, true, true, true, true, true, true, true, true, true, true, true, true, true, true, true, true, true, true, true, true, false] rfl rfl (by kernel_rfl) (fun _ _ _ h => h) (Or.inl ⟨by rfl, ?_⟩) ?_ ?_
        rotate_left
        · intro w'
          go_simp
          with_reducible rfl
        rotate_left
        · simp only [Act.put, List.setIfInBounds_toArray, List.set_cons_zero, List.set_cons_succ, i64_w, i32_w, e1]
          rfl
        refine pure_ (i := 21) (N := some 66) (v := ?_) (a' := ?_) #[true, true, true, true, true, true, true, true, true, true, true, true, true, true, true, true, true, true, true, true, true, true] rfl rfl (by kernel_rfl) (fun _ _ _ h => h) (Or.inl ⟨by rfl, ?_⟩) ?_ ?_
        rotate_left
        · intro w'
          go_simp
          with_reducible rfl
        rotate_left
        · simp only [Act.put, List.setIfInBounds_toArray, List.set_cons_zero, List.set_cons_succ, i64_w, i32_w, e1]
          rfl
        refine done_ (by kernel_rfl) ?_
        clear e1 S0 P10 C10 D10 L10
        have z26 := (bkCell NW.out.1 26).trans (show _ = some (.bool q.he) from rfl)
        have P14 := Lib.hid NW.out.1
        have C14 := Lib.hid NW.out.2.1
        have D14 := Lib.hid NW.out.2.2.1
        have B14 := NW.out.2.2.2.1
        have L14 := Lib.hid NW.out.2.2.2.2
        clear NW NB
        go_wp2_with (first
          | (refine wpLoadAsk rfl _ rfl (w.heap.size) rfl q s A n c0 P14.out ?_)
          | (refine wpList_load_row rfl 26 (.tmp 6) rfl (w2.heap.size) rfl 26 _ (0, 0) _ C14.out Try.underlying26 rfl (Cur.i26 _) ?_)
          | (go_at_call 18; (with_reducible refine (MQ.out _ D14.out).mono ?_); rintro e w15 ⟨rfl, hb15⟩; have P15 := Lib.hid (bkBelow P14.out hb15); have C15 := Lib.hid (bkBelow C14.out hb15); have D15 := Lib.hid (D14.out.later hb15); have L15 := Lib.hid (L14.out.later hb15); have B15 := bdT B14 B14.size hb15; clear P14 C14 D14 L14)
          | (refine wpList_store_row rfl 26 (.tmp 6) (.tmp 74) rfl (w2.heap.size) (Cur.cs (walkC s n q.he (j + 1))) rfl rfl 26 _ C15.out (Cur.i26 _) (Cur.sz _ _) (Cur.one _) ?_))
        have hg := HP2.out
        have hs2 := HS2.out
        have hlo := HLO.out
        exact ⟨⟨j + 1, by omega, by go_num, (setRow_other _ w2.heap.size w.heap.size _ (by omega)).trans P15.out, setRow_heap _ _ _ _ _ _ C15.out, L15.out.setRow (fun _ => by omega) _, below_setRow B15 (by omega) _⟩, by simp [intOf]; omega⟩
    · obtain rfl : j = M := by omega
      go_wp2_with (go_at_call 16; (with_reducible refine (awake_any _).mono ?_); rintro e wz ⟨rfl, hbz⟩)
      go_ret
      exact ⟨rfl, bdT NB.out NB.out.size hbz⟩
theorem unrolls_law (q : Q) (s : S) (A : Option Addr) (n c0 : Nat) (zs : List Int) (w : World) (h : RowOf w A n c0 zs) : Calls Try.prog 6 #[.agg (q.cs s A n c0)] w fun e w' => e = .returned (.bool true) ∧ Below w.heap.size w w' := by
  obtain ⟨k1, hn, b, o, d1⟩ := dataOf h
  obtain ⟨M, hM⟩ := Int.eq_ofNat_of_zero_le (show 0 ≤ q.nn % 512 by omega)
  cases hv : vS s n (fun i => zs.getD i 0)
  · exact unrolls_bad q s A n c0 b o _ M hM hv hn k1 w d1
  · exact unrolls_ok q s A n c0 b o _ M hM hv hn k1 w d1
end Go.Proofs.Ytnmoiolddfboiaa.SX

/- A cursor goes step by step as the document says. -/
import Derived.Test.YtnmoiolddfboiaaSxI
import Derived.Test.YtnmoiolddfboiaaSxN
namespace Go.Proofs.Ytnmoiolddfboiaa.SX
open Go.RowKit Go.Proofs.YtnmoiolddfboiaaW.PrintLast Go.Proofs.Ytnmoiolddfboiaa.TX Go.Proofs.Ytnmoiolddfboiaa.Cu
set_option linter.unusedVariables false
set_option linter.unusedSimpArgs false
theorem and29 (n : Int) : bits .and .i64 n 536870911 = n % 536870912 := by
  have h127 : (BitVec.ofInt 64 536870911).toNat = 2 ^ 29 - 1 := by decide
  have key : (BitVec.ofInt 64 n &&& BitVec.ofInt 64 536870911).toNat = (n % ((2 ^ 64 : Nat) : Int)).toNat % 2 ^ 29 := by
    rw [BitVec.toNat_and, BitVec.toNat_ofInt, h127, Nat.and_two_pow_sub_one_eq_mod]
  show IntKind.i64.wrap ((BitVec.ofInt 64 n &&& BitVec.ofInt 64 536870911).toNat : Nat) = n % 536870912
  rw [key, IntKind.wrap_i64]
  omega
set_option maxHeartbeats 16000000 in
set_option maxRecDepth 100000 in
theorem walks_bad (q : Q) (s : S) (A A2 : Option Addr) (n c0 b o m c2 b2 o2 : Nat) (xs ys : Nat → Int) (hv : vS s n xs = false) (hn : n ≤ 9223372036854775807) (hc0 : n ≤ c0) (w : World) (hA : DataAt w A n b o xs) (hE : DataAt w A2 m b2 o2 ys) : Calls Try.prog 3 #[.agg (q.cs s A n c0), .slice A2 m c2] w fun e w' => e = .returned (.bool true) ∧ Below w.heap.size w w' := by
  have B0 : Below w.heap.size w (w.alloc (Obj.cells (q.cs s A n c0) 28)) := (Below.refl _ _).alloc (Nat.le_refl _) _
  have P0 := Lib.hid (show (w.alloc (Obj.cells (q.cs s A n c0) 28)).heap[w.heap.size]? = some (.cells (q.cs s A n c0) 28 (0, 0)) from heap_alloc_new w _)
  have D0 := Lib.hid (hA.later B0)
  have VC := Lib.hid (show ∀ (W : World), DataAt W A n b o xs → Calls Try.prog 15 #[.agg (s.cs A n c0)] W fun e w' => e = .returned (.bool false) ∧ Below W.heap.size W w' from fun W h => by have := valid_any s A n c0 b o xs hn hc0 W h; rwa [hv] at this)
  clear hA hE hv
  go_enter Try.func3, Try.ntmps3
  go_wp2_with (first
    | (refine wpLoadAsk rfl _ rfl (w.heap.size) rfl q s A n c0 P0.out ?_)
    | (go_at_call 15; (with_reducible refine (VC.out _ D0.out).mono ?_); rintro e w1 ⟨rfl, hb1⟩; have P1 := Lib.hid (bkBelow P0.out hb1); have D1 := Lib.hid (D0.out.later hb1); have B1 := bdT B0 B0.size hb1; clear P0 D0)
    | (go_at_call 16; (with_reducible refine (awake_any _).mono ?_); rintro e wz ⟨rfl, hbz⟩))
  go_ret
  exact ⟨rfl, bdT B1 B1.size hbz⟩
set_option maxHeartbeats 16000000 in
set_option maxRecDepth 100000 in
theorem walks_long (q : Q) (s : S) (A A2 : Option Addr) (n c0 b o m c2 b2 o2 : Nat) (xs ys : Nat → Int) (hv : vS s n xs = true) (hm : 200 < m) (hn : n ≤ 9223372036854775807) (hc0 : n ≤ c0) (w : World) (hA : DataAt w A n b o xs) (hE : DataAt w A2 m b2 o2 ys) : Calls Try.prog 3 #[.agg (q.cs s A n c0), .slice A2 m c2] w fun e w' => e = .returned (.bool true) ∧ Below w.heap.size w w' := by
  have B0 : Below w.heap.size w (w.alloc (Obj.cells (q.cs s A n c0) 28)) := (Below.refl _ _).alloc (Nat.le_refl _) _
  have P0 := Lib.hid (show (w.alloc (Obj.cells (q.cs s A n c0) 28)).heap[w.heap.size]? = some (.cells (q.cs s A n c0) 28 (0, 0)) from heap_alloc_new w _)
  have D0 := Lib.hid (hA.later B0)
  have VC := Lib.hid (show ∀ (W : World), DataAt W A n b o xs → Calls Try.prog 15 #[.agg (s.cs A n c0)] W fun e w' => e = .returned (.bool true) ∧ Below W.heap.size W w' from fun W h => by have := valid_any s A n c0 b o xs hn hc0 W h; rwa [hv] at this)
  have d1 : decide (200 < (m : Int)) = true := decide_eq_true (by omega)
  have d2 : decide (200 < m) = true := decide_eq_true hm
  clear hA hE hv hm
  go_enter Try.func3, Try.ntmps3
  go_wp2_with (first
    | (refine wpLoadAsk rfl _ rfl (w.heap.size) rfl q s A n c0 P0.out ?_)
    | (go_at_call 15; (with_reducible refine (VC.out _ D0.out).mono ?_); rintro e w1 ⟨rfl, hb1⟩; have P1 := Lib.hid (bkBelow P0.out hb1); have D1 := Lib.hid (D0.out.later hb1); have B1 := bdT B0 B0.size hb1; clear P0 D0)
    | (go_at_call 16; (with_reducible refine (awake_any _).mono ?_); rintro e wz ⟨rfl, hbz⟩))
  go_ret
  exact ⟨rfl, bdT B1 B1.size hbz⟩
set_option maxHeartbeats 16000000 in
set_option maxRecDepth 100000 in
theorem walks_ok (q : Q) (s : S) (A A2 : Option Addr) (n c0 b o m c2 b2 o2 : Nat) (xs ys : Nat → Int) (ho : -9223372036854775808 ≤ q.off ∧ q.off ≤ 9223372036854775807) (hv : vS s n xs = true) (hm : m ≤ 200) (hn : n ≤ 9223372036854775807) (hc0 : n ≤ c0) (w : World) (hA : DataAt w A n b o xs) (hE : DataAt w A2 m b2 o2 ys) : Calls Try.prog 3 #[.agg (q.cs s A n c0), .slice A2 m c2] w fun e w' => e = .returned (.bool true) ∧ Below w.heap.size w w' := by
  have B0 : Below w.heap.size w (w.alloc (Obj.cells (q.cs s A n c0) 28)) := (Below.refl _ _).alloc (Nat.le_refl _) _
  have P0 := Lib.hid (show (w.alloc (Obj.cells (q.cs s A n c0) 28)).heap[w.heap.size]? = some (.cells (q.cs s A n c0) 28 (0, 0)) from heap_alloc_new w _)
  have D0 := Lib.hid (hA.later B0)
  have E0 := Lib.hid (hE.later B0)
  have VC := Lib.hid (show ∀ (W : World), DataAt W A n b o xs → Calls Try.prog 15 #[.agg (s.cs A n c0)] W fun e w' => e = .returned (.bool true) ∧ Below W.heap.size W w' from fun W h => by have := valid_any s A n c0 b o xs hn hc0 W h; rwa [hv] at this)
  have d1 : decide (200 < (m : Int)) = false := decide_eq_false (by omega)
  have d2 : decide (200 < m) = false := decide_eq_false (by omega)
  have l0 : (0 : Int) ≤ (m : Int) := by omega
  have KB := Lib.hid fun (W : World) (h : DataAt W A n b o xs) => sbegin_any s A n c0 b o xs q.off q.ba ho hn hc0 W h
  rw [show beginA s n xs q.off q.ba = begM n q.off q.ba from if_pos hv] at KB
  have HD := Lib.hid hA
  have HE := Lib.hid hE
  have HTE := Lib.hid hE.top
  have HV := Lib.hid hv
  have HN := Lib.hid hn
  have HC0 := Lib.hid hc0
  have HM := Lib.hid hm
  clear hA hE hv
  go_enter Try.func3, Try.ntmps3
  go_upto_region 3 with (first
    | (refine wpLoadAsk rfl _ rfl (w.heap.size) rfl q s A n c0 P0.out ?_)
    | (go_at_call 15; (with_reducible refine (VC.out _ D0.out).mono ?_); rintro e w1 ⟨rfl, hb1⟩; have P1 := Lib.hid (bkBelow P0.out hb1); have D1 := Lib.hid (D0.out.later hb1); have E1 := Lib.hid (E0.out.later hb1); have B1 := bdT B0 B0.size hb1; clear P0 D0 E0))
  clear d1 d2
  have z20 := (bkCell P1.out 20).trans (show _ = some (iv q.off) from rfl)
  have z27 := (bkCell P1.out 27).trans (show _ = some (.bool q.ba) from rfl)
  go_upto_region 4 with (first
    | (refine wpLoadAsk rfl _ rfl (w.heap.size) rfl q s A n c0 P1.out ?_)
    | (go_at_call 17; (with_reducible refine (KB.out _ D1.out).mono ?_); rintro e w2 ⟨rfl, hb2⟩; have P2 := Lib.hid (bkBelow P1.out hb2); have HP2 := Lib.hid (bkLt P2.out); have D2 := Lib.hid (D1.out.later hb2); have E2 := Lib.hid (E1.out.later hb2); have B2 := bdT B1 B1.size hb2; clear P1 D1 E1)
    | (refine wpList_store_row rfl 26 (.tmp 5) (.tmp 29) rfl (w2.heap.size) (Cur.cs (begM n q.off q.ba)) rfl rfl 26 _ (heap_alloc_new w2 (Obj.cells #[iv 0, iv 0, .bool false, .bool false] 26)) (Cur.i26 _) (Cur.sz Cur.zero _) (Cur.one _) ?_; have K3 := below_setRow ((Below.refl w2.heap.size w2).alloc (Nat.le_refl _) (Obj.cells #[iv 0, iv 0, .bool false, .bool false] 26)) (g := w2.heap.size) (Nat.le_refl _) (Cur.cs (begM n q.off q.ba)); have P3 := Lib.hid (bkBelow P2.out K3); have D3 := Lib.hid (D2.out.later K3); have E3 := Lib.hid (E2.out.later K3); have B3 := bdT B2 B2.size K3; have C3 := Lib.hid (setRow_heap _ _ _ (Cur.cs (begM n q.off q.ba)) _ _ (heap_alloc_new w2 (Obj.cells #[iv 0, iv 0, .bool false, .bool false] 26))); clear P2 D2 E2))
  clear z20 z27
  go_upto_region 5 with (fail)
  have HG := Lib.hid (show w.heap.size < w2.heap.size from HP2.out)
  go_loopw [32] (fun v wr => ∃ (j : Nat) (X : Cur), j ≤ m ∧ v = iv j ∧ CurOk n X ∧ wr.heap[w.heap.size]? = some (.cells (q.cs s A n c0) 28 (0, 0)) ∧ wr.heap[w2.heap.size]? = some (.cells (Cur.cs X) 26 (0, 0)) ∧ Below w.heap.size w wr) (fun v _ => m - (intOf v).toNat)
  case atStart => exact ⟨0, begM n q.off q.ba, by omega, rfl, beg_ok n q.off q.ba, P3.out, C3.out, B3⟩
  case round =>
    clear P3 D3 E3 C3 B3 HP2
    obtain ⟨j, X, hj, rfl, hX, hP, hC, hB⟩ := hrel
    have P10 := Lib.hid hP
    have C10 := Lib.hid hC
    have D10 := Lib.hid (HD.out.later hB)
    have E10 := Lib.hid (HE.out.later hB)
    have B10 := hB
    have HX := Lib.hid hX
    have l3 : (0 : Int) ≤ (j : Int) := by omega
    have l5 : (j : Int) ≤ 200 := by have := HM.out; omega
    clear hX hP hC hB
    by_cases hlt : j < m
    · have l4 : (j : Int) < (m : Int) := by omega
      have tE := HTE.out (by omega)
      subst tE
      have e0 := E10.out.cell j hlt
      obtain ⟨v, hv⟩ : ∃ v, ys j = v := ⟨_, rfl⟩
      rw [hv] at e0
      obtain ⟨st, hst⟩ : ∃ st, bits .and .i64 v 536870911 = st := ⟨_, rfl⟩
      have HS := Lib.hid (show 0 ≤ st ∧ st < 536870912 by rw [and29] at hst; omega)
      clear hv
      cases hhe : q.he
      · have HH := Lib.hid hhe
        have z26 := (bkCell P10.out 26).trans (show _ = some (.bool q.he) from rfl)
        rw [hhe] at z26
        have z19 := (bkCell P10.out 19).trans (show _ = some (iv q.nn) from rfl)
        clear hhe
        go_upto_region 9 with (fail)
        clear z26 z19 e0 hst
        by_cases hbig : st ≤ 268435456
        · obtain ⟨Y, hY⟩ : ∃ Y, moveM s n X st false = Y := ⟨_, rfl⟩
          have eA : moveA s n xs X st false = (Y, 0) := by
            have := HS.out
            unfold moveA
            rw [if_pos ⟨HV.out, okB_iff.2 HX.out⟩, if_neg (by omega), hY]
          have hYok : CurOk n Y := by
            have := HS.out
            rw [← hY]
            exact moveM_ok (vS_loops HV.out) HX.out this.1
          have HY := Lib.hid hYok
          have KP := Lib.hid (show ∀ W : World, DataAt W A n b o xs → Calls Try.prog 18 #[.agg (s.cs A n c0), .agg (Cur.cs X), iv st, .bool false] W fun e w' => e = .returned (.tuple #[.agg (Cur.cs Y), iv 0]) ∧ Below W.heap.size W w' from fun W h => by
            have := smove_any s A n c0 b o xs X st false HN.out HC0.out W h
            rwa [eA] at this)
          have KR := Lib.hid (show ∀ W : World, DataAt W A n b o xs → Calls Try.prog 19 #[.agg (s.cs A n c0), .agg (Cur.cs X), iv st, .bool false] W fun e w' => e = .returned (.tuple #[.agg (Cur.cs Y), iv 0]) ∧ Below W.heap.size W w' from fun W h => by
            have := rmove_any s A n c0 b o xs X st false HN.out HC0.out W h
            rwa [eA] at this)
          clear hY eA hbig hYok
          have EQ := Lib.hid (eqCur Y)
          go_upto_region 10 with (first
            | (refine wpLoadAsk rfl _ rfl (w.heap.size) rfl q s A n c0 P10.out ?_)
            | (refine wpList_load_row rfl 26 (.tmp 5) rfl (w2.heap.size) rfl 26 _ (0, 0) _ C10.out Try.underlying26 rfl (Cur.i26 _) ?_)
            | (go_at_call 18; (with_reducible refine (KP.out _ D10.out).mono ?_); rintro e w11 ⟨rfl, hb11⟩; have P11 := Lib.hid (bkBelow P10.out hb11); have C11 := Lib.hid (bkBelow C10.out hb11); have D11 := Lib.hid (D10.out.later hb11); have B11 := bdT B10 B10.size hb11; clear P10 C10 D10)
            | (refine wpList_store_row rfl 26 (.tmp 9) (.tmp 54) rfl (w11.heap.size) (Cur.cs Y) rfl rfl 26 _ (heap_alloc_new w11 (Obj.cells #[iv 0, iv 0, .bool false, .bool false] 26)) (Cur.i26 _) (Cur.sz Cur.zero _) (Cur.one _) ?_; have K12 := below_setRow ((Below.refl w11.heap.size w11).alloc (Nat.le_refl _) (Obj.cells #[iv 0, iv 0, .bool false, .bool false] 26)) (g := w11.heap.size) (Nat.le_refl _) (Cur.cs Y); have P12 := Lib.hid (bkBelow P11.out K12); have C12 := Lib.hid (bkBelow C11.out K12); have D12 := Lib.hid (D11.out.later K12); have B12 := bdT B11 B11.size K12; have M12 := Lib.hid (setRow_heap _ _ _ (Cur.cs Y) _ _ (heap_alloc_new w11 (Obj.cells #[iv 0, iv 0, .bool false, .bool false] 26))); clear P11 C11 D11))
          go_upto_region 11 with (first
            | (refine wpLoadAsk rfl _ rfl (w.heap.size) rfl q s A n c0 P12.out ?_)
            | (refine wpList_load_row rfl 26 (.tmp 5) rfl (w2.heap.size) rfl 26 _ (0, 0) _ C12.out Try.underlying26 rfl (Cur.i26 _) ?_)
            | (go_at_call 19; (with_reducible refine (KR.out _ D12.out).mono ?_); rintro e w13 ⟨rfl, hb13⟩; have P13 := Lib.hid (bkBelow P12.out hb13); have C13 := Lib.hid (bkBelow C12.out hb13); have D13 := Lib.hid (D12.out.later hb13); have M13 := Lib.hid (bkBelow M12.out hb13); have B13 := bdT B12 B12.size hb13; clear P12 C12 D12 M12)
            | (refine wpList_store_row rfl 26 (.tmp 11) (.tmp 63) rfl (w13.heap.size) (Cur.cs Y) rfl rfl 26 _ (heap_alloc_new w13 (Obj.cells #[iv 0, iv 0, .bool false, .bool false] 26)) (Cur.i26 _) (Cur.sz Cur.zero _) (Cur.one _) ?_; have K14 := below_setRow ((Below.refl w13.heap.size w13).alloc (Nat.le_refl _) (Obj.cells #[iv 0, iv 0, .bool false, .bool false] 26)) (g := w13.heap.size) (Nat.le_refl _) (Cur.cs Y); have P14 := Lib.hid (bkBelow P13.out K14); have C14 := Lib.hid (bkBelow C13.out K14); have D14 := Lib.hid (D13.out.later K14); have M14 := Lib.hid (bkBelow M13.out K14); have B14 := bdT B13 B13.size K14; have R14 := Lib.hid (setRow_heap _ _ _ (Cur.cs Y) _ _ (heap_alloc_new w13 (Obj.cells #[iv 0, iv 0, .bool false, .bool false] 26))); clear P13 C13 D13 M13))
          have eqx := EQ.out
          go_upto_region 13 with (first
            | (refine wpList_load_row rfl 26 (.tmp 9) rfl (w11.heap.size) rfl 26 _ (0, 0) _ M14.out Try.underlying26 rfl (Cur.i26 _) ?_)
            | (refine wpList_load_row rfl 26 (.tmp 11) rfl (w13.heap.size) rfl 26 _ (0, 0) _ R14.out Try.underlying26 rfl (Cur.i26 _) ?_))
          clear eqx
          go_upto_region 15 with (first
            | (refine wpList_load_row rfl 26 (.tmp 9) rfl (w11.heap.size) rfl 26 _ (0, 0) _ M14.out Try.underlying26 rfl (Cur.i26 _) ?_)
            | (refine wpList_store_row rfl 26 (.tmp 5) (.tmp 75) rfl (w2.heap.size) (Cur.cs Y) rfl rfl 26 _ C14.out (Cur.i26 _) (Cur.sz _ _) (Cur.one _) ?_))
          have C15 := setRow_heap _ _ _ (Cur.cs Y) _ _ C14.out
          have k0 := (bkCell C15 0).trans (show _ = some (iv Y.pos) from rfl)
          have k1 := (bkCell C15 1).trans (show _ = some (iv Y.frac) from rfl)
          have k3 := (bkCell C15 3).trans (show _ = some (.bool Y.done) from rfl)
          have P15 := (setRow_other _ w2.heap.size w.heap.size (Cur.cs Y) (by have := HG.out; omega)).trans P14.out
          have x1 := (bkCell P15 1).trans (show _ = some (.slice A n c0) from rfl)
          have NC := Lib.hid C15
          have NP := Lib.hid P15
          have NB := Lib.hid (below_setRow B14 (show w.heap.size ≤ w2.heap.size by have := HG.out; omega) (Cur.cs Y))
          clear C15 P15 P14 C14 B14 D14 M14 R14
          cases hdn : Y.done
          · rw [hdn] at k3
            have hc := HY.out
            unfold CurOk at hc
            rw [hdn, if_neg (show ¬ (false = true) by decide)] at hc
            have d5 : decide (Y.pos < 0) = false := decide_eq_false (by omega)
            have d6 : decide ((n : Int) ≤ Y.pos) = false := decide_eq_false (by omega)
            have d7 : decide (Y.frac < 0) = false := decide_eq_false (by omega)
            have d8 : decide (65535 < Y.frac) = false := decide_eq_false (by omega)
            clear hc hdn
            go_wp2
            exact ⟨⟨j + 1, Y, by omega, by go_num, HY.out, NP.out, NC.out, NB.out⟩, by simp [intOf]; omega⟩
          · rw [hdn] at k3
            clear hdn
            go_wp2
            exact ⟨⟨j + 1, Y, by omega, by go_num, HY.out, NP.out, NC.out, NB.out⟩, by simp [intOf]; omega⟩
        · obtain ⟨Y, hY⟩ : ∃ Y, Y = Cur.zero := ⟨_, rfl⟩
          have eA : moveA s n xs X st false = (Y, 5) := by
            have := HS.out
            unfold moveA
            rw [if_pos ⟨HV.out, okB_iff.2 HX.out⟩, if_pos (by omega), hY]
          have KP := Lib.hid (show ∀ W : World, DataAt W A n b o xs → Calls Try.prog 18 #[.agg (s.cs A n c0), .agg (Cur.cs X), iv st, .bool false] W fun e w' => e = .returned (.tuple #[.agg (Cur.cs Y), iv 5]) ∧ Below W.heap.size W w' from fun W h => by
            have := smove_any s A n c0 b o xs X st false HN.out HC0.out W h
            rwa [eA] at this)
          have KR := Lib.hid (show ∀ W : World, DataAt W A n b o xs → Calls Try.prog 19 #[.agg (s.cs A n c0), .agg (Cur.cs X), iv st, .bool false] W fun e w' => e = .returned (.tuple #[.agg (Cur.cs Y), iv 5]) ∧ Below W.heap.size W w' from fun W h => by
            have := rmove_any s A n c0 b o xs X st false HN.out HC0.out W h
            rwa [eA] at this)
          clear hY eA hbig
          have EQ := Lib.hid (eqCur Y)
          go_upto_region 10 with (first
            | (refine wpLoadAsk rfl _ rfl (w.heap.size) rfl q s A n c0 P10.out ?_)
            | (refine wpList_load_row rfl 26 (.tmp 5) rfl (w2.heap.size) rfl 26 _ (0, 0) _ C10.out Try.underlying26 rfl (Cur.i26 _) ?_)
            | (go_at_call 18; (with_reducible refine (KP.out _ D10.out).mono ?_); rintro e w11 ⟨rfl, hb11⟩; have P11 := Lib.hid (bkBelow P10.out hb11); have C11 := Lib.hid (bkBelow C10.out hb11); have D11 := Lib.hid (D10.out.later hb11); have B11 := bdT B10 B10.size hb11; clear P10 C10 D10)
            | (refine wpList_store_row rfl 26 (.tmp 9) (.tmp 54) rfl (w11.heap.size) (Cur.cs Y) rfl rfl 26 _ (heap_alloc_new w11 (Obj.cells #[iv 0, iv 0, .bool false, .bool false] 26)) (Cur.i26 _) (Cur.sz Cur.zero _) (Cur.one _) ?_; have K12 := below_setRow ((Below.refl w11.heap.size w11).alloc (Nat.le_refl _) (Obj.cells #[iv 0, iv 0, .bool false, .bool false] 26)) (g := w11.heap.size) (Nat.le_refl _) (Cur.cs Y); have P12 := Lib.hid (bkBelow P11.out K12); have C12 := Lib.hid (bkBelow C11.out K12); have D12 := Lib.hid (D11.out.later K12); have B12 := bdT B11 B11.size K12; have M12 := Lib.hid (setRow_heap _ _ _ (Cur.cs Y) _ _ (heap_alloc_new w11 (Obj.cells #[iv 0, iv 0, .bool false, .bool false] 26))); clear P11 C11 D11))
          go_upto_region 11 with (first
            | (refine wpLoadAsk rfl _ rfl (w.heap.size) rfl q s A n c0 P12.out ?_)
            | (refine wpList_load_row rfl 26 (.tmp 5) rfl (w2.heap.size) rfl 26 _ (0, 0) _ C12.out Try.underlying26 rfl (Cur.i26 _) ?_)
            | (go_at_call 19; (with_reducible refine (KR.out _ D12.out).mono ?_); rintro e w13 ⟨rfl, hb13⟩; have P13 := Lib.hid (bkBelow P12.out hb13); have C13 := Lib.hid (bkBelow C12.out hb13); have D13 := Lib.hid (D12.out.later hb13); have M13 := Lib.hid (bkBelow M12.out hb13); have B13 := bdT B12 B12.size hb13; clear P12 C12 D12 M12)
            | (refine wpList_store_row rfl 26 (.tmp 11) (.tmp 63) rfl (w13.heap.size) (Cur.cs Y) rfl rfl 26 _ (heap_alloc_new w13 (Obj.cells #[iv 0, iv 0, .bool false, .bool false] 26)) (Cur.i26 _) (Cur.sz Cur.zero _) (Cur.one _) ?_; have K14 := below_setRow ((Below.refl w13.heap.size w13).alloc (Nat.le_refl _) (Obj.cells #[iv 0, iv 0, .bool false, .bool false] 26)) (g := w13.heap.size) (Nat.le_refl _) (Cur.cs Y); have P14 := Lib.hid (bkBelow P13.out K14); have C14 := Lib.hid (bkBelow C13.out K14); have D14 := Lib.hid (D13.out.later K14); have M14 := Lib.hid (bkBelow M13.out K14); have B14 := bdT B13 B13.size K14; have R14 := Lib.hid (setRow_heap _ _ _ (Cur.cs Y) _ _ (heap_alloc_new w13 (Obj.cells #[iv 0, iv 0, .bool false, .bool false] 26))); clear P13 C13 D13 M13))
          have eqx := EQ.out
          go_upto_region 13 with (first
            | (refine wpList_load_row rfl 26 (.tmp 9) rfl (w11.heap.size) rfl 26 _ (0, 0) _ M14.out Try.underlying26 rfl (Cur.i26 _) ?_)
            | (refine wpList_load_row rfl 26 (.tmp 11) rfl (w13.heap.size) rfl 26 _ (0, 0) _ R14.out Try.underlying26 rfl (Cur.i26 _) ?_))
          clear eqx
          go_wp2
          exact ⟨⟨j + 1, X, by omega, by go_num, HX.out, P14.out, C14.out, B14⟩, by simp [intOf]; omega⟩
      · have HH := Lib.hid hhe
        have z26 := (bkCell P10.out 26).trans (show _ = some (.bool q.he) from rfl)
        rw [hhe] at z26
        have z19 := (bkCell P10.out 19).trans (show _ = some (iv q.nn) from rfl)
        clear hhe
        go_upto_region 9 with (fail)
        clear z26 z19 e0 hst
        obtain ⟨hb, hhb⟩ : ∃ hb : Bool, decide ((j : Int) < q.nn) = hb := ⟨_, rfl⟩
        rw [hhb]
        clear hhb
        by_cases hbig : st ≤ 268435456
        · obtain ⟨Y, hY⟩ : ∃ Y, moveM s n X st hb = Y := ⟨_, rfl⟩
          have eA : moveA s n xs X st hb = (Y, 0) := by
            have := HS.out
            unfold moveA
            rw [if_pos ⟨HV.out, okB_iff.2 HX.out⟩, if_neg (by omega), hY]
          have hYok : CurOk n Y := by
            have := HS.out
            rw [← hY]
            exact moveM_ok (vS_loops HV.out) HX.out this.1
          have HY := Lib.hid hYok
          have KP := Lib.hid (show ∀ W : World, DataAt W A n b o xs → Calls Try.prog 18 #[.agg (s.cs A n c0), .agg (Cur.cs X), iv st, .bool hb] W fun e w' => e = .returned (.tuple #[.agg (Cur.cs Y), iv 0]) ∧ Below W.heap.size W w' from fun W h => by
            have := smove_any s A n c0 b o xs X st hb HN.out HC0.out W h
            rwa [eA] at this)
          have KR := Lib.hid (show ∀ W : World, DataAt W A n b o xs → Calls Try.prog 19 #[.agg (s.cs A n c0), .agg (Cur.cs X), iv st, .bool hb] W fun e w' => e = .returned (.tuple #[.agg (Cur.cs Y), iv 0]) ∧ Below W.heap.size W w' from fun W h => by
            have := rmove_any s A n c0 b o xs X st hb HN.out HC0.out W h
            rwa [eA] at this)
          clear hY eA hbig hYok
          have EQ := Lib.hid (eqCur Y)
          go_upto_region 10 with (first
            | (refine wpLoadAsk rfl _ rfl (w.heap.size) rfl q s A n c0 P10.out ?_)
            | (refine wpList_load_row rfl 26 (.tmp 5) rfl (w2.heap.size) rfl 26 _ (0, 0) _ C10.out Try.underlying26 rfl (Cur.i26 _) ?_)
            | (go_at_call 18; (with_reducible refine (KP.out _ D10.out).mono ?_); rintro e w11 ⟨rfl, hb11⟩; have P11 := Lib.hid (bkBelow P10.out hb11); have C11 := Lib.hid (bkBelow C10.out hb11); have D11 := Lib.hid (D10.out.later hb11); have B11 := bdT B10 B10.size hb11; clear P10 C10 D10)
            | (refine wpList_store_row rfl 26 (.tmp 9) (.tmp 54) rfl (w11.heap.size) (Cur.cs Y) rfl rfl 26 _ (heap_alloc_new w11 (Obj.cells #[iv 0, iv 0, .bool false, .bool false] 26)) (Cur.i26 _) (Cur.sz Cur.zero _) (Cur.one _) ?_; have K12 := below_setRow ((Below.refl w11.heap.size w11).alloc (Nat.le_refl _) (Obj.cells #[iv 0, iv 0, .bool false, .bool false] 26)) (g := w11.heap.size) (Nat.le_refl _) (Cur.cs Y); have P12 := Lib.hid (bkBelow P11.out K12); have C12 := Lib.hid (bkBelow C11.out K12); have D12 := Lib.hid (D11.out.later K12); have B12 := bdT B11 B11.size K12; have M12 := Lib.hid (setRow_heap _ _ _ (Cur.cs Y) _ _ (heap_alloc_new w11 (Obj.cells #[iv 0, iv 0, .bool false, .bool false] 26))); clear P11 C11 D11))
          go_upto_region 11 with (first
            | (refine wpLoadAsk rfl _ rfl (w.heap.size) rfl q s A n c0 P12.out ?_)
            | (refine wpList_load_row rfl 26 (.tmp 5) rfl (w2.heap.size) rfl 26 _ (0, 0) _ C12.out Try.underlying26 rfl (Cur.i26 _) ?_)
            | (go_at_call 19; (with_reducible refine (KR.out _ D12.out).mono ?_); rintro e w13 ⟨rfl, hb13⟩; have P13 := Lib.hid (bkBelow P12.out hb13); have C13 := Lib.hid (bkBelow C12.out hb13); have D13 := Lib.hid (D12.out.later hb13); have M13 := Lib.hid (bkBelow M12.out hb13); have B13 := bdT B12 B12.size hb13; clear P12 C12 D12 M12)
            | (refine wpList_store_row rfl 26 (.tmp 11) (.tmp 63) rfl (w13.heap.size) (Cur.cs Y) rfl rfl 26 _ (heap_alloc_new w13 (Obj.cells #[iv 0, iv 0, .bool false, .bool false] 26)) (Cur.i26 _) (Cur.sz Cur.zero _) (Cur.one _) ?_; have K14 := below_setRow ((Below.refl w13.heap.size w13).alloc (Nat.le_refl _) (Obj.cells #[iv 0, iv 0, .bool false, .bool false] 26)) (g := w13.heap.size) (Nat.le_refl _) (Cur.cs Y); have P14 := Lib.hid (bkBelow P13.out K14); have C14 := Lib.hid (bkBelow C13.out K14); have D14 := Lib.hid (D13.out.later K14); have M14 := Lib.hid (bkBelow M13.out K14); have B14 := bdT B13 B13.size K14; have R14 := Lib.hid (setRow_heap _ _ _ (Cur.cs Y) _ _ (heap_alloc_new w13 (Obj.cells #[iv 0, iv 0, .bool false, .bool false] 26))); clear P13 C13 D13 M13))
          have eqx := EQ.out
          go_upto_region 13 with (first
            | (refine wpList_load_row rfl 26 (.tmp 9) rfl (w11.heap.size) rfl 26 _ (0, 0) _ M14.out Try.underlying26 rfl (Cur.i26 _) ?_)
            | (refine wpList_load_row rfl 26 (.tmp 11) rfl (w13.heap.size) rfl 26 _ (0, 0) _ R14.out Try.underlying26 rfl (Cur.i26 _) ?_))
          clear eqx
          go_upto_region 15 with (first
            | (refine wpList_load_row rfl 26 (.tmp 9) rfl (w11.heap.size) rfl 26 _ (0, 0) _ M14.out Try.underlying26 rfl (Cur.i26 _) ?_)
            | (refine wpList_store_row rfl 26 (.tmp 5) (.tmp 75) rfl (w2.heap.size) (Cur.cs Y) rfl rfl 26 _ C14.out (Cur.i26 _) (Cur.sz _ _) (Cur.one _) ?_))
          have C15 := setRow_heap _ _ _ (Cur.cs Y) _ _ C14.out
          have k0 := (bkCell C15 0).trans (show _ = some (iv Y.pos) from rfl)
          have k1 := (bkCell C15 1).trans (show _ = some (iv Y.frac) from rfl)
          have k3 := (bkCell C15 3).trans (show _ = some (.bool Y.done) from rfl)
          have P15 := (setRow_other _ w2.heap.size w.heap.size (Cur.cs Y) (by have := HG.out; omega)).trans P14.out
          have x1 := (bkCell P15 1).trans (show _ = some (.slice A n c0) from rfl)
          have NC := Lib.hid C15
          have NP := Lib.hid P15
          have NB := Lib.hid (below_setRow B14 (show w.heap.size ≤ w2.heap.size by have := HG.out; omega) (Cur.cs Y))
          clear C15 P15 P14 C14 B14 D14 M14 R14
          cases hdn : Y.done
          · rw [hdn] at k3
            have hc := HY.out
            unfold CurOk at hc
            rw [hdn, if_neg (show ¬ (false = true) by decide)] at hc
            have d5 : decide (Y.pos < 0) = false := decide_eq_false (by omega)
            have d6 : decide ((n : Int) ≤ Y.pos) = false := decide_eq_false (by omega)
            have d7 : decide (Y.frac < 0) = false := decide_eq_false (by omega)
            have d8 : decide (65535 < Y.frac) = false := decide_eq_false (by omega)
            clear hc hdn
            go_wp2
            exact ⟨⟨j + 1, Y, by omega, by go_num, HY.out, NP.out, NC.out, NB.out⟩, by simp [intOf]; omega⟩
          · rw [hdn] at k3
            clear hdn
            go_wp2
            exact ⟨⟨j + 1, Y, by omega, by go_num, HY.out, NP.out, NC.out, NB.out⟩, by simp [intOf]; omega⟩
        · obtain ⟨Y, hY⟩ : ∃ Y, Y = Cur.zero := ⟨_, rfl⟩
          have eA : moveA s n xs X st hb = (Y, 5) := by
            have := HS.out
            unfold moveA
            rw [if_pos ⟨HV.out, okB_iff.2 HX.out⟩, if_pos (by omega), hY]
          have KP := Lib.hid (show ∀ W : World, DataAt W A n b o xs → Calls Try.prog 18 #[.agg (s.cs A n c0), .agg (Cur.cs X), iv st, .bool hb] W fun e w' => e = .returned (.tuple #[.agg (Cur.cs Y), iv 5]) ∧ Below W.heap.size W w' from fun W h => by
            have := smove_any s A n c0 b o xs X st hb HN.out HC0.out W h
            rwa [eA] at this)
          have KR := Lib.hid (show ∀ W : World, DataAt W A n b o xs → Calls Try.prog 19 #[.agg (s.cs A n c0), .agg (Cur.cs X), iv st, .bool hb] W fun e w' => e = .returned (.tuple #[.agg (Cur.cs Y), iv 5]) ∧ Below W.heap.size W w' from fun W h => by
            have := rmove_any s A n c0 b o xs X st hb HN.out HC0.out W h
            rwa [eA] at this)
          clear hY eA hbig
          have EQ := Lib.hid (eqCur Y)
          go_upto_region 10 with (first
            | (refine wpLoadAsk rfl _ rfl (w.heap.size) rfl q s A n c0 P10.out ?_)
            | (refine wpList_load_row rfl 26 (.tmp 5) rfl (w2.heap.size) rfl 26 _ (0, 0) _ C10.out Try.underlying26 rfl (Cur.i26 _) ?_)
            | (go_at_call 18; (with_reducible refine (KP.out _ D10.out).mono ?_); rintro e w11 ⟨rfl, hb11⟩; have P11 := Lib.hid (bkBelow P10.out hb11); have C11 := Lib.hid (bkBelow C10.out hb11); have D11 := Lib.hid (D10.out.later hb11); have B11 := bdT B10 B10.size hb11; clear P10 C10 D10)
            | (refine wpList_store_row rfl 26 (.tmp 9) (.tmp 54) rfl (w11.heap.size) (Cur.cs Y) rfl rfl 26 _ (heap_alloc_new w11 (Obj.cells #[iv 0, iv 0, .bool false, .bool false] 26)) (Cur.i26 _) (Cur.sz Cur.zero _) (Cur.one _) ?_; have K12 := below_setRow ((Below.refl w11.heap.size w11).alloc (Nat.le_refl _) (Obj.cells #[iv 0, iv 0, .bool false, .bool false] 26)) (g := w11.heap.size) (Nat.le_refl _) (Cur.cs Y); have P12 := Lib.hid (bkBelow P11.out K12); have C12 := Lib.hid (bkBelow C11.out K12); have D12 := Lib.hid (D11.out.later K12); have B12 := bdT B11 B11.size K12; have M12 := Lib.hid (setRow_heap _ _ _ (Cur.cs Y) _ _ (heap_alloc_new w11 (Obj.cells #[iv 0, iv 0, .bool false, .bool false] 26))); clear P11 C11 D11))
          go_upto_region 11 with (first
            | (refine wpLoadAsk rfl _ rfl (w.heap.size) rfl q s A n c0 P12.out ?_)
            | (refine wpList_load_row rfl 26 (.tmp 5) rfl (w2.heap.size) rfl 26 _ (0, 0) _ C12.out Try.underlying26 rfl (Cur.i26 _) ?_)
            | (go_at_call 19; (with_reducible refine (KR.out _ D12.out).mono ?_); rintro e w13 ⟨rfl, hb13⟩; have P13 := Lib.hid (bkBelow P12.out hb13); have C13 := Lib.hid (bkBelow C12.out hb13); have D13 := Lib.hid (D12.out.later hb13); have M13 := Lib.hid (bkBelow M12.out hb13); have B13 := bdT B12 B12.size hb13; clear P12 C12 D12 M12)
            | (refine wpList_store_row rfl 26 (.tmp 11) (.tmp 63) rfl (w13.heap.size) (Cur.cs Y) rfl rfl 26 _ (heap_alloc_new w13 (Obj.cells #[iv 0, iv 0, .bool false, .bool false] 26)) (Cur.i26 _) (Cur.sz Cur.zero _) (Cur.one _) ?_; have K14 := below_setRow ((Below.refl w13.heap.size w13).alloc (Nat.le_refl _) (Obj.cells #[iv 0, iv 0, .bool false, .bool false] 26)) (g := w13.heap.size) (Nat.le_refl _) (Cur.cs Y); have P14 := Lib.hid (bkBelow P13.out K14); have C14 := Lib.hid (bkBelow C13.out K14); have D14 := Lib.hid (D13.out.later K14); have M14 := Lib.hid (bkBelow M13.out K14); have B14 := bdT B13 B13.size K14; have R14 := Lib.hid (setRow_heap _ _ _ (Cur.cs Y) _ _ (heap_alloc_new w13 (Obj.cells #[iv 0, iv 0, .bool false, .bool false] 26))); clear P13 C13 D13 M13))
          have eqx := EQ.out
          go_upto_region 13 with (first
            | (refine wpList_load_row rfl 26 (.tmp 9) rfl (w11.heap.size) rfl 26 _ (0, 0) _ M14.out Try.underlying26 rfl (Cur.i26 _) ?_)
            | (refine wpList_load_row rfl 26 (.tmp 11) rfl (w13.heap.size) rfl 26 _ (0, 0) _ R14.out Try.underlying26 rfl (Cur.i26 _) ?_))
          clear eqx
          go_wp2
          exact ⟨⟨j + 1, X, by omega, by go_num, HX.out, P14.out, C14.out, B14⟩, by simp [intOf]; omega⟩
    · obtain rfl : j = m := by omega
      go_wp2_with (go_at_call 16; (with_reducible refine (awake_any _).mono ?_); rintro e wz ⟨rfl, hbz⟩)
      go_ret
      exact ⟨rfl, bdT B10 B10.size hbz⟩
theorem walks_law (q : Q) (s : S) (A A2 : Option Addr) (n c0 m c2 : Nat) (zs ys : List Int) (ho : (Lit.int .i64 q.off).wf = true) (w : World) (h : RowOf w A n c0 zs) (h2 : RowOf w A2 m c2 ys) : Calls Try.prog 3 #[.agg (q.cs s A n c0), .slice A2 m c2] w fun e w' => e = .returned (.bool true) ∧ Below w.heap.size w w' := by
  obtain ⟨k1, hn, b, o, d1⟩ := dataOf h
  obtain ⟨_, _, b2, o2, d2⟩ := dataOf h2
  cases hv : vS s n (fun i => zs.getD i 0)
  · exact walks_bad q s A A2 n c0 b o m c2 b2 o2 _ _ hv hn k1 w d1 d2
  · by_cases hm : m ≤ 200
    · exact walks_ok q s A A2 n c0 b o m c2 b2 o2 _ _ (wfR ho) hv hm hn k1 w d1 d2
    · exact walks_long q s A A2 n c0 b o m c2 b2 o2 _ _ hv (by omega) hn k1 w d1 d2
end Go.Proofs.Ytnmoiolddfboiaa.SX

/- A sample unrolled: the values on the way of a cursor. -/
import Derived.Test.YtnmoiolddfboiaaSxE
namespace Go.Proofs.Ytnmoiolddfboiaa.SX
open Go.RowKit Go.Proofs.YtnmoiolddfboiaaW.PrintLast Go.Proofs.Ytnmoiolddfboiaa.TX Go.Proofs.Ytnmoiolddfboiaa.Cu
set_option linter.unusedVariables false
set_option linter.unusedSimpArgs false
/-- the places of a cursor that begins at frame 0 -/
def walkC (s : S) (n : Nat) (held : Bool) : Nat → Cur
  | 0 => begM n 0 false
  | i + 1 => moveM s n (walkC s n held i) 65536 held
def unrF (s : S) (n : Nat) (xs : Nat → Int) (held : Bool) (i : Nat) : Int := tapM s n xs (walkC s n held i) 0 held
def uF (s : S) (n : Nat) (xs : Nat → Int) (held : Bool) (j i : Nat) : Int := if i < j then unrF s n xs held i else 0
theorem ownFarRow {w : World} {B g n c m k : Nat} {xs : List Value} (h : w.ownsRow B 3 1 (.slice (some ⟨g, 0, none⟩) n c) m xs) (hne : g ≠ k) (cs : Array Value) : (w.setRow k cs).ownsRow B 3 1 (.slice (some ⟨g, 0, none⟩) n c) m xs := by
  refine ⟨h.1, ?_⟩
  rcases h.2 with ⟨h', _⟩ | ⟨g', cap', cur, h', h1, hg, h2⟩
  · simp at h'
  · simp only [Value.slice.injEq, Option.some.injEq, Addr.mk.injEq, and_true, true_and] at h'
    obtain ⟨rfl, rfl, rfl⟩ := h'
    exact .inr ⟨g, c, cur, rfl, h1, (setRow_other w k g cs hne).trans hg, h2⟩
theorem walk_zero (s : S) (n : Nat) (held : Bool) : walkC s n held 0 = begM n 0 false := by rw [walkC]
theorem walk_succ (s : S) (n : Nat) (held : Bool) (j : Nat) : walkC s n held (j + 1) = moveM s n (walkC s n held j) 65536 held := by rw [walkC]
theorem unr_def (s : S) (n : Nat) (xs : Nat → Int) (held : Bool) (j : Nat) : unrF s n xs held j = tapM s n xs (walkC s n held j) 0 held := by rw [unrF]
theorem move_doneM {s : S} {n : Nat} {c : Cur} {step : Int} {held : Bool} (h : c.done = true) : moveM s n c step held = c := by unfold moveM moveK; rw [if_pos h]
theorem walk_done {s : S} {n : Nat} {held : Bool} {j : Nat} (h : (walkC s n held j).done = true) : ∀ d, (walkC s n held (j + d)).done = true
  | 0 => h
  | d + 1 => by
    have ih := walk_done h d
    show (moveM s n (walkC s n held (j + d)) 65536 held).done = true
    rw [move_doneM ih]
    exact ih
theorem unr_done {s : S} {n : Nat} {xs : Nat → Int} {held : Bool} {j i : Nat} (h : (walkC s n held j).done = true) (hi : j ≤ i) : unrF s n xs held i = 0 := by
  obtain ⟨d, rfl⟩ : ∃ d, i = j + d := ⟨i - j, by omega⟩
  exact if_pos (walk_done h d)
theorem beg_ok (n : Nat) (off : Int) (back : Bool) : CurOk n (begM n off back) := by
  unfold begM
  by_cases h : off < 0 ∨ (n : Int) ≤ off
  · rw [if_pos h]
    unfold CurOk
    rw [if_pos (show Cur.over.done = true from rfl)]
  · rw [if_neg h]
    cases back
    · rw [if_neg (by decide)]
      unfold CurOk
      rw [if_neg (show ¬ (false = true) by decide)]
      simp only
      omega
    · rw [if_pos rfl]
      unfold CurOk
      rw [if_neg (show ¬ (false = true) by decide)]
      simp only
      omega
theorem moveM_ok {s : S} {n : Nat} {c : Cur} {step : Int} {held : Bool} (hL : Loops s n) (hc : CurOk n c) (hs : 0 ≤ step) : CurOk n (moveM s n c step held) := move_ok (loops_rg hL held).1 hc hs
theorem walk_ok {s : S} {n : Nat} {held : Bool} (hL : Loops s n) : ∀ j, CurOk n (walkC s n held j)
  | 0 => beg_ok n 0 false
  | j + 1 => moveM_ok hL (walk_ok hL j) (by omega)
theorem uF_step (s : S) (n : Nat) (xs : Nat → Int) (held : Bool) (N j : Nat) : rw_ (fun i => if i = j then unrF s n xs held j else uF s n xs held j i) N = rw_ (uF s n xs held (j + 1)) N := by
  refine rw_congr fun i hi => ?_
  unfold uF
  by_cases e : i = j
  · subst e
    rw [if_pos rfl, if_pos (by omega)]
  · rw [if_neg e]
    by_cases h : i < j
    · rw [if_pos h, if_pos (by omega)]
    · rw [if_neg h, if_neg (by omega)]
set_option maxHeartbeats 16000000 in
set_option maxRecDepth 100000 in
theorem sunroll_bad (s : S) (A : Option Addr) (n c0 b o : Nat) (xs : Nat → Int) (N : Int) (held : Bool) (hv : vS s n xs = false) (hn : n ≤ 9223372036854775807) (hc0 : n ≤ c0) (w : World) (hA : DataAt w A n b o xs) : Calls Try.prog 21 #[.agg (s.cs A n c0), iv N, .bool held] w fun e w' => ∃ A' c' b' o', e = .returned (.tuple #[.slice A' 0 c', iv 1]) ∧ DataAt w' A' 0 b' o' (fun _ => 0) ∧ 0 ≤ c' ∧ Below w.heap.size w w' := by
  have B0 : Below w.heap.size w (w.alloc (Obj.cells (s.cs A n c0) 24)) := (Below.refl _ _).alloc (Nat.le_refl _) _
  have P0 := Lib.hid (show (w.alloc (Obj.cells (s.cs A n c0) 24)).heap[w.heap.size]? = some (.cells (s.cs A n c0) 24 (0, 0)) from heap_alloc_new w _)
  have D0 := Lib.hid (hA.later B0)
  have VC := Lib.hid (show ∀ (W : World), DataAt W A n b o xs → Calls Try.prog 15 #[.agg (s.cs A n c0)] W fun e w' => e = .returned (.bool false) ∧ Below W.heap.size W w' from fun W h => by have := valid_any s A n c0 b o xs hn hc0 W h; rwa [hv] at this)
  clear hA hv
  go_enter Try.func21, Try.ntmps21
  go_wp2_with (first
    | (refine wpList_load_row rfl 24 (.tmp 3) rfl (w.heap.size) rfl 24 _ (0, 0) _ P0.out Try.underlying24 rfl (S.i24 _ _ _ _) ?_)
    | (go_at_call 15; (with_reducible refine (VC.out _ D0.out).mono ?_); rintro e w1 ⟨rfl, hb1⟩; have P1 := Lib.hid (bkBelow P0.out hb1); have D1 := Lib.hid (D0.out.later hb1); have B1 := bdT B0 B0.size hb1))
  go_ret2
  exact ⟨none, 0, 0, 0, rfl, ⟨fun h => by omega, fun h => by omega, fun i h => by omega⟩, Nat.le_refl _, B1⟩
set_option maxHeartbeats 16000000 in
set_option maxRecDepth 100000 in
theorem sunroll_rnga (s : S) (A : Option Addr) (n c0 b o : Nat) (xs : Nat → Int) (N : Int) (held : Bool) (hv : vS s n xs = true) (hN : N < 0) (hn : n ≤ 9223372036854775807) (hc0 : n ≤ c0) (w : World) (hA : DataAt w A n b o xs) : Calls Try.prog 21 #[.agg (s.cs A n c0), iv N, .bool held] w fun e w' => ∃ A' c' b' o', e = .returned (.tuple #[.slice A' 0 c', iv 5]) ∧ DataAt w' A' 0 b' o' (fun _ => 0) ∧ 0 ≤ c' ∧ Below w.heap.size w w' := by
  have B0 : Below w.heap.size w (w.alloc (Obj.cells (s.cs A n c0) 24)) := (Below.refl _ _).alloc (Nat.le_refl _) _
  have P0 := Lib.hid (show (w.alloc (Obj.cells (s.cs A n c0) 24)).heap[w.heap.size]? = some (.cells (s.cs A n c0) 24 (0, 0)) from heap_alloc_new w _)
  have D0 := Lib.hid (hA.later B0)
  have VC := Lib.hid (show ∀ (W : World), DataAt W A n b o xs → Calls Try.prog 15 #[.agg (s.cs A n c0)] W fun e w' => e = .returned (.bool true) ∧ Below W.heap.size W w' from fun W h => by have := valid_any s A n c0 b o xs hn hc0 W h; rwa [hv] at this)
  have d0 : decide (N < 0) = true := decide_eq_true hN
  clear hA hv
  go_enter Try.func21, Try.ntmps21
  go_wp2_with (first
    | (refine wpList_load_row rfl 24 (.tmp 3) rfl (w.heap.size) rfl 24 _ (0, 0) _ P0.out Try.underlying24 rfl (S.i24 _ _ _ _) ?_)
    | (go_at_call 15; (with_reducible refine (VC.out _ D0.out).mono ?_); rintro e w1 ⟨rfl, hb1⟩; have P1 := Lib.hid (bkBelow P0.out hb1); have D1 := Lib.hid (D0.out.later hb1); have B1 := bdT B0 B0.size hb1))
  go_ret2
  exact ⟨none, 0, 0, 0, rfl, ⟨fun h => by omega, fun h => by omega, fun i h => by omega⟩, Nat.le_refl _, B1⟩
set_option maxHeartbeats 16000000 in
set_option maxRecDepth 100000 in
theorem sunroll_rngb (s : S) (A : Option Addr) (n c0 b o : Nat) (xs : Nat → Int) (N : Int) (held : Bool) (hv : vS s n xs = true) (hN : 0 ≤ N) (hN1 : 200000 < N) (hn : n ≤ 9223372036854775807) (hc0 : n ≤ c0) (w : World) (hA : DataAt w A n b o xs) : Calls Try.prog 21 #[.agg (s.cs A n c0), iv N, .bool held] w fun e w' => ∃ A' c' b' o', e = .returned (.tuple #[.slice A' 0 c', iv 5]) ∧ DataAt w' A' 0 b' o' (fun _ => 0) ∧ 0 ≤ c' ∧ Below w.heap.size w w' := by
  have B0 : Below w.heap.size w (w.alloc (Obj.cells (s.cs A n c0) 24)) := (Below.refl _ _).alloc (Nat.le_refl _) _
  have P0 := Lib.hid (show (w.alloc (Obj.cells (s.cs A n c0) 24)).heap[w.heap.size]? = some (.cells (s.cs A n c0) 24 (0, 0)) from heap_alloc_new w _)
  have D0 := Lib.hid (hA.later B0)
  have VC := Lib.hid (show ∀ (W : World), DataAt W A n b o xs → Calls Try.prog 15 #[.agg (s.cs A n c0)] W fun e w' => e = .returned (.bool true) ∧ Below W.heap.size W w' from fun W h => by have := valid_any s A n c0 b o xs hn hc0 W h; rwa [hv] at this)
  have d0 : decide (N < 0) = false := decide_eq_false (by omega)
  have d1 : decide (200000 < N) = true := decide_eq_true hN1
  clear hA hv
  go_enter Try.func21, Try.ntmps21
  go_wp2_with (first
    | (refine wpList_load_row rfl 24 (.tmp 3) rfl (w.heap.size) rfl 24 _ (0, 0) _ P0.out Try.underlying24 rfl (S.i24 _ _ _ _) ?_)
    | (go_at_call 15; (with_reducible refine (VC.out _ D0.out).mono ?_); rintro e w1 ⟨rfl, hb1⟩; have P1 := Lib.hid (bkBelow P0.out hb1); have D1 := Lib.hid (D0.out.later hb1); have B1 := bdT B0 B0.size hb1))
  go_ret2
  exact ⟨none, 0, 0, 0, rfl, ⟨fun h => by omega, fun h => by omega, fun i h => by omega⟩, Nat.le_refl _, B1⟩
set_option maxHeartbeats 16000000 in
set_option maxRecDepth 100000 in
theorem sunroll_ok (s : S) (A : Option Addr) (n c0 b o : Nat) (xs : Nat → Int) (N : Nat) (held : Bool) (hv : vS s n xs = true) (hN : N ≤ 200000) (hn : n ≤ 9223372036854775807) (hc0 : n ≤ c0) (w : World) (hA : DataAt w A n b o xs) : Calls Try.prog 21 #[.agg (s.cs A n c0), iv N, .bool held] w fun e w' => ∃ A' c' b' o', e = .returned (.tuple #[.slice A' N c', iv 0]) ∧ DataAt w' A' N b' o' (unrF s n xs held) ∧ N ≤ c' ∧ Below w.heap.size w w' := by
  obtain ⟨i0, hi, hz0, hz1, hz2⟩ := info_parts info3
  have HN := Lib.hid hN
  have HL := Lib.hid (vS_loops hv)
  have HX := Lib.hid (vS_frames hv)
  have d0 : decide ((N : Int) < 0) = false := decide_eq_false (by omega)
  have d1 : decide (200000 < (N : Int)) = false := decide_eq_false (by omega)
  have n0 : decide (200000 < N) = false := decide_eq_false (by omega)
  have l0 : (0 : Int) ≤ (N : Int) := by omega
  have B0 : Below w.heap.size w (w.alloc (Obj.cells (s.cs A n c0) 24)) := (Below.refl _ _).alloc (Nat.le_refl _) _
  have P0 := Lib.hid (show (w.alloc (Obj.cells (s.cs A n c0) 24)).heap[w.heap.size]? = some (.cells (s.cs A n c0) 24 (0, 0)) from heap_alloc_new w _)
  have D0 := Lib.hid (hA.later B0)
  have VC := Lib.hid (show ∀ (W : World), DataAt W A n b o xs → Calls Try.prog 15 #[.agg (s.cs A n c0)] W fun e w' => e = .returned (.bool true) ∧ Below W.heap.size W w' from fun W h => by have := valid_any s A n c0 b o xs hn hc0 W h; rwa [hv] at this)
  have BC := Lib.hid fun (W : World) (h : W.heap[w.heap.size]? = some (.cells (s.cs A n c0) 24 (0, 0))) => begin_any s A n c0 w.heap.size 0 false (by omega) (by have := HL.out.1; omega) W h
  have HD := Lib.hid hA
  clear hA hv hN
  go_enter Try.func21, Try.ntmps21
  go_upto_region 6 with (first
    | (refine wpList_load_row rfl 24 (.tmp 3) rfl (w.heap.size) rfl 24 _ (0, 0) _ P0.out Try.underlying24 rfl (S.i24 _ _ _ _) ?_)
    | (go_at_call 15; (with_reducible refine (VC.out _ D0.out).mono ?_); rintro e w1 ⟨rfl, hb1⟩; have P1 := Lib.hid (bkBelow P0.out hb1); have D1 := Lib.hid (D0.out.later hb1); have B1 := bdT B0 B0.size hb1)
    | (at_make; refine wpList_make_full _ rfl _ _ 22 rfl w.heap.size 3 i0 (.int .i64 0) 1 Try.underlying22 hi hz0 hz1 .i64 .i64 _ _ N rfl rfl rfl rfl (by rw [hz2]; have := HN.out; omega) (by unfold maxLen; have := HN.out; omega) (by have := B1.size; omega) ?_; intro w2 hown hgrow))
  have hw1 := B1.size
  have P2 := Lib.hid (grBlk P1.out hgrow (by simp))
  have D2 := Lib.hid (D1.out.later (Below.grown (Below.refl _ _) hgrow (Nat.le_refl _) (by simp)))
  have B2 := B1.grown hgrow hw1 (by simp)
  have O2 := Lib.hid hown
  have HR := Lib.hid (show w.heap.size < w1.heap.size from bkLt P1.out)
  clear hown hgrow hw1 d0 d1 n0
  have Q2 := BC.out w2 P2.out
  have KQ := Lib.hid Q2
  clear Q2
  go_upto_region 8 with (first
    | (go_at_call 60; (with_reducible refine KQ.out.mono ?_); rintro e w3 ⟨rfl, hb3⟩; have P3 := Lib.hid (bkBelow P2.out hb3); have O3 := Lib.hid (ownBelow O2.out hb3); have B3 := bdT B2 B2.size hb3; have Z3 := Lib.hid (heap_alloc_new w3 (Obj.cells #[iv 0, iv 0, .bool false, .bool false] 26)); have R3 := Lib.hid (ownFarA O3.out))
    | (refine wpList_store_row rfl 26 (.tmp 9) (.tmp 22) rfl (w3.heap.size) (Cur.cs (begM n 0 false)) rfl rfl 26 _ Z3.out (Cur.i26 _) (Cur.sz Cur.zero _) (Cur.one _) ?_))
  have K3 := below_setRow ((Below.refl w3.heap.size w3).alloc (Nat.le_refl _) (Obj.cells #[iv 0, iv 0, .bool false, .bool false] 26)) (g := w3.heap.size) (Nat.le_refl _) (Cur.cs (begM n 0 false))
  have E4 := Lib.hid (setRow_heap _ _ _ (Cur.cs (begM n 0 false)) _ _ Z3.out)
  have P4 := Lib.hid (bkBelow P3.out K3)
  have O4 := Lib.hid (ownBelow O3.out K3)
  have B4 := bdT B3 B3.size K3
  have HG := Lib.hid (show w.heap.size < w1.heap.size ∧ w1.heap.size < w3.heap.size from ⟨HR.out, R3.out⟩)
  clear K3 B3 B2 P3 P2 O3 O2 Z3 R3 HR hb3 D0 D1 D2 KQ P0 P1 B0 B1 hb1
  go_loopw [25] (fun v wr => ∃ j : Nat, j ≤ N ∧ v = iv j ∧ wr.heap[w.heap.size]? = some (.cells (s.cs A n c0) 24 (0, 0)) ∧ wr.heap[w3.heap.size]? = some (.cells (Cur.cs (walkC s n held j)) 26 (0, 0)) ∧ wr.ownsRow w.heap.size 3 1 (.slice (some ⟨w1.heap.size, 0, none⟩) N N) N (rw_ (uF s n xs held j) N) ∧ Below w.heap.size w wr) (fun v _ => N - (intOf v).toNat)
  case atStart => exact ⟨0, by omega, rfl, P4.out, by rw [walk_zero]; exact E4.out, ownN O4.out (by rw [show uF s n xs held 0 = fun _ => 0 from by funext i; unfold uF; rw [if_neg (by omega)], rw_zero]; first | rfl | (rw [Nat.mul_one]; exact toList_madeCells_one _ _)), B4⟩
  case round =>
    clear P4 E4 O4 B4
    obtain ⟨j, hj, rfl, hP, hC, hO, hB⟩ := hrel
    have NP := Lib.hid hP
    have NC := Lib.hid hC
    have NO := Lib.hid hO
    have ND := Lib.hid (HD.out.later hB)
    have c3 := (bkCell hC 3).trans (show _ = some (.bool (walkC s n held j).done) from rfl)
    have l3 : (0 : Int) ≤ (j : Int) := by omega
    have l5 : (j : Int) ≤ 200000 := by have := HN.out; omega
    clear hP hC hO
    have hend : ∀ (h : ∀ i, j ≤ i → i < N → unrF s n xs held i = 0), DataAt wr (some ⟨w1.heap.size, 0, none⟩) N w1.heap.size 0 (unrF s n xs held) := fun h => (ownData NO.out).congr fun i hi => by
      unfold uF
      by_cases c : i < j
      · rw [if_pos c]
      · rw [if_neg c, h i (by omega) hi]
    have HE := Lib.hid hend
    clear hend
    by_cases hlt : j < N
    · have l4 : (j : Int) < (N : Int) := by omega
      cases hd : (walkC s n held j).done
      · rw [hd] at c3
        have HK := Lib.hid (walk_ok (s := s) (n := n) (held := held) HL.out j)
        have TQ := Lib.hid (show Calls Try.prog 66 #[.pointer (some ⟨w.heap.size, 0, none⟩), .agg (Cur.cs (walkC s n held j)), iv 0, .bool held] wr fun e w' => e = .returned (iv (unrF s n xs held j)) ∧ Below wr.heap.size wr w' by rw [unr_def]; exact tap_any s A n c0 w.heap.size b o xs (walkC s n held j) 0 held HL.out HX.out HK.out (by omega) (by omega) wr NP.out ND.out)
        have HDn := Lib.hid hd
        clear hd
        go_upto_region 11 with (fail)
        clear c3
        go_upto_region 12 with (first
          | (refine wpList_load_row rfl 26 (.tmp 9) rfl (w3.heap.size) rfl 26 _ (0, 0) _ NC.out Try.underlying26 rfl (Cur.i26 _) ?_)
          | (go_at_call 66; (with_reducible refine TQ.out.mono ?_); rintro e w5 ⟨rfl, hb5⟩; have P5 := Lib.hid (bkBelow NP.out hb5); have C5 := Lib.hid (bkBelow NC.out hb5); have O5 := Lib.hid (ownBelow NO.out hb5); have B5 := bdT hB hB.size hb5; have s4 : w5.cell? ⟨w1.heap.size, j, none⟩ = some (iv (uF s n xs held j j)) := (O5.out.cellAt j (by omega)).trans (rw_at _ N j hlt); have f4 := O5.out.frozenAt j))
        have P6 := Lib.hid (bkFar P5.out (p := ⟨w1.heap.size, j, none⟩) (by have := HG.out; simp; omega) (iv (unrF s n xs held j)))
        have C6 := Lib.hid (bkFar C5.out (p := ⟨w1.heap.size, j, none⟩) (by have := HG.out; simp; omega) (iv (unrF s n xs held j)))
        have O6 := Lib.hid (ownN (O5.out.stored j (iv (unrF s n xs held j))).1 ((rw_set _ N j _).trans (uF_step s n xs held N j)))
        have B6 := B5.setCell (p := ⟨w1.heap.size, j, none⟩) (by have := HG.out; simp; omega) (iv (unrF s n xs held j))
        have MQ := Lib.hid (show Calls Try.prog 62 #[.pointer (some ⟨w.heap.size, 0, none⟩), .agg (Cur.cs (walkC s n held j)), iv 65536, .bool held] (w5.setCell ⟨w1.heap.size, j, none⟩ (iv (unrF s n xs held j))) fun e w' => e = .returned (.agg (Cur.cs (walkC s n held (j + 1)))) ∧ Below (w5.setCell ⟨w1.heap.size, j, none⟩ (iv (unrF s n xs held j))).heap.size (w5.setCell ⟨w1.heap.size, j, none⟩ (iv (unrF s n xs held j))) w' by rw [walk_succ]; exact move_any s A n c0 w.heap.size (walkC s n held j) 65536 held HL.out HK.out (by omega) (by omega) (w5.setCell ⟨w1.heap.size, j, none⟩ (iv (unrF s n xs held j))) P6.out)
        clear P5 C5 O5 B5 s4 f4 hb5
        go_wp2_with (first
          | (refine wpList_load_row rfl 26 (.tmp 9) rfl (w3.heap.size) rfl 26 _ (0, 0) _ C6.out Try.underlying26 rfl (Cur.i26 _) ?_)
          | (go_at_call 62; (with_reducible refine MQ.out.mono ?_); rintro e w7 ⟨rfl, hb7⟩; have P7 := Lib.hid (bkBelow P6.out hb7); have C7 := Lib.hid (bkBelow C6.out hb7); have O7 := Lib.hid (ownBelow O6.out hb7); have B7 := Lib.hid (bdT B6 B6.size hb7))
          | (refine wpList_store_row rfl 26 (.tmp 9) (.tmp 38) rfl (w3.heap.size) (Cur.cs (walkC s n held (j + 1))) rfl rfl 26 _ C7.out (Cur.i26 _) (Cur.sz _ _) (Cur.one _) ?_))
        have hg := HG.out
        refine ⟨⟨j + 1, by omega, by go_num, (setRow_other w7 w3.heap.size w.heap.size (Cur.cs (walkC s n held (j + 1))) (by omega)).trans P7.out, setRow_heap _ _ _ _ _ _ C7.out, ?_, below_setRow B7.out (by omega) _⟩, by simp [intOf]; omega⟩
        exact ownFarRow O7.out (by omega) _
      · rw [hd] at c3
        have HZ := Lib.hid (HE.out fun i hi _ => unr_done hd hi)
        clear hd
        go_wp2
        go_ret2
        exact ⟨_, _, w1.heap.size, 0, rfl, HZ.out, Nat.le_refl _, hB⟩
    · obtain rfl : j = N := by omega
      have HZ := Lib.hid (HE.out fun i hi h => by omega)
      go_wp2
      go_ret2
      exact ⟨_, _, w1.heap.size, 0, rfl, HZ.out, Nat.le_refl _, hB⟩
def unrN (s : S) (n : Nat) (xs : Nat → Int) (N : Int) : Nat := if vS s n xs = true ∧ 0 ≤ N ∧ N ≤ 200000 then N.toNat else 0
def unrE (s : S) (n : Nat) (xs : Nat → Int) (N : Int) : Int := if vS s n xs = true then (if 0 ≤ N ∧ N ≤ 200000 then 0 else 5) else 1
theorem data0 {w : World} {A : Option Addr} {b o : Nat} {F G : Nat → Int} (h : DataAt w A 0 b o F) : DataAt w A 0 b o G := h.congr fun i hi => by omega
theorem unrN_le (s : S) (n : Nat) (xs : Nat → Int) (N : Int) : unrN s n xs N ≤ 200000 := by unfold unrN; split <;> omega
theorem sunroll_any (s : S) (A : Option Addr) (n c0 b o : Nat) (xs : Nat → Int) (N : Int) (held : Bool) (hn : n ≤ 9223372036854775807) (hc0 : n ≤ c0) (w : World) (hA : DataAt w A n b o xs) : Calls Try.prog 21 #[.agg (s.cs A n c0), iv N, .bool held] w fun e w' => ∃ A' c' b' o', e = .returned (.tuple #[.slice A' (unrN s n xs N) c', iv (unrE s n xs N)]) ∧ DataAt w' A' (unrN s n xs N) b' o' (unrF s n xs held) ∧ unrN s n xs N ≤ c' ∧ Below w.heap.size w w' := by
  cases hv : vS s n xs
  · rw [show unrN s n xs N = 0 from if_neg (by rw [hv]; simp), show unrE s n xs N = 1 from if_neg (by rw [hv]; simp)]
    exact (sunroll_bad s A n c0 b o xs N held hv hn hc0 w hA).mono fun e w' ⟨A', c', b', o', h1, h2, h3, h4⟩ => ⟨A', c', b', o', h1, data0 h2, h3, h4⟩
  · by_cases h0 : N < 0
    · rw [show unrN s n xs N = 0 from if_neg (by omega), show unrE s n xs N = 5 from by unfold unrE; rw [if_pos hv, if_neg (by omega)]]
      exact (sunroll_rnga s A n c0 b o xs N held hv h0 hn hc0 w hA).mono fun e w' ⟨A', c', b', o', h1, h2, h3, h4⟩ => ⟨A', c', b', o', h1, data0 h2, h3, h4⟩
    · by_cases h1 : 200000 < N
      · rw [show unrN s n xs N = 0 from if_neg (by omega), show unrE s n xs N = 5 from by unfold unrE; rw [if_pos hv, if_neg (by omega)]]
        exact (sunroll_rngb s A n c0 b o xs N held hv (by omega) h1 hn hc0 w hA).mono fun e w' ⟨A', c', b', o', h1, h2, h3, h4⟩ => ⟨A', c', b', o', h1, data0 h2, h3, h4⟩
      · obtain ⟨M, rfl⟩ := Int.eq_ofNat_of_zero_le (show 0 ≤ N by omega)
        rw [show unrN s n xs M = M from if_pos ⟨hv, by omega, by omega⟩, show unrE s n xs M = 0 from by unfold unrE; rw [if_pos hv, if_pos (by omega)]]
        exact sunroll_ok s A n c0 b o xs M held hv (by omega) hn hc0 w hA
set_option maxHeartbeats 4000000 in
set_option maxRecDepth 100000 in
theorem same_yes (A D : Option Addr) (n c d b o b' o' : Nat) (xs : Nat → Int) (hn : n ≤ 1000000) (w : World) (hA : DataAt w A n b o xs) (hD : DataAt w D n b' o' xs) :
    Calls Try.prog 30 #[.slice A n c, .slice D n d] w fun e w' => e = .returned (.bool true) ∧ ∃ m, w' = w.drewN m := by
  have HA := Lib.hid hA
  have HD := Lib.hid hD
  have TA := Lib.hid hA.top
  have TD := Lib.hid hD.top
  clear hA hD
  have l0 : (0 : Int) ≤ (n : Int) := by omega
  have e0 : ((n : Int) != (n : Int)) = false := by simp
  go_enter Try.func30, Try.ntmps30
  go_upto_region 4 with (fail)
  go_loopw [13] (fun v wr => ∃ k : Nat, k ≤ n ∧ v = iv k ∧ ∃ m, wr = w.drewN m) (fun v _ => n - (intOf v).toNat)
  case atStart => exact ⟨0, by omega, rfl, 0, rfl⟩
  case round =>
    obtain ⟨k, hk, rfl, m, rfl⟩ := hrel
    by_cases hlt : k < n
    · have tA := TA.out (by omega)
      have tD := TD.out (by omega)
      subst tA tD
      have ha := HA.out.cell k hlt
      have hb := HD.out.cell k hlt
      generalize xs k = x at ha hb
      have h0 : (0 : Int) ≤ (k : Int) := by omega
      have h1 : (k : Int) < (n : Int) := by omega
      have e1 : (x != x) = false := by simp
      go_wp2
      go_quiet (fail)
      go_wp2
      exact ⟨⟨k + 1, by omega, by go_num, _, rfl⟩, by simp [intOf]; omega⟩
    · have h1 : decide ((k : Int) < (n : Int)) = false := decide_eq_false (by omega)
      go_wp2
      go_ret
      exact ⟨rfl, m, rfl⟩
end Go.Proofs.Ytnmoiolddfboiaa.SX

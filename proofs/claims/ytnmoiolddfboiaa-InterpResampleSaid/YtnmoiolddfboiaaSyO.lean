/- The values on a way: both packages tell the same. -/
import Derived.Test.YtnmoiolddfboiaaSyN
import Derived.Test.YtnmoiolddfboiaaSyM
import Derived.Test.YtnmoiolddfboiaaSxO
namespace Go.Proofs.Ytnmoiolddfboiaa.SX
open Go.RowKit Go.Proofs.YtnmoiolddfboiaaW.PrintLast Go.Proofs.Ytnmoiolddfboiaa.TX Go.Proofs.Ytnmoiolddfboiaa.Cu
set_option linter.unusedVariables false
set_option linter.unusedSimpArgs false
set_option maxHeartbeats 4000000 in
set_option maxRecDepth 100000 in
theorem equal_yes (A D : Option Addr) (n c d b o b' o' : Nat) (xs : Nat → Int) (hn : n ≤ 20000000000000) (w : World) (hA : DataAt w A n b o xs) (hD : DataAt w D n b' o' xs) :
    Calls Try.prog 45 #[.slice A n c, .slice D n d] w fun e w' => e = .returned (.bool true) ∧ ∃ m, w' = w.drewN m := by
  have HA := Lib.hid hA
  have HD := Lib.hid hD
  have TA := Lib.hid hA.top
  have TD := Lib.hid hD.top
  clear hA hD
  have l0 : (0 : Int) ≤ (n : Int) := by omega
  have e0 : ((n : Int) != (n : Int)) = false := by simp
  go_enter Try.func45, Try.ntmps45
  go_upto_region 4 with (fail)
  go_loopw [13] (fun v wr => ∃ k : Nat, k ≤ n ∧ v = iv k ∧ ∃ m, wr = w.drewN m) (fun v _ => n - (intOf v).toNat)
  case atStart => exact ⟨0, by omega, rfl, 0, rfl⟩
  case round =>
    obtain ⟨k, hk, rfl, m, rfl⟩ := hrel
    by_cases hlt : k < n
    · have tA := TA.out (by omega)
      have tD := TD.out (by omega)
      subst tA tD
      have ha := HA.out.cell k hlt
      have hb := HD.out.cell k hlt
      generalize xs k = x at ha hb
      have h0 : (0 : Int) ≤ (k : Int) := by omega
      have h1 : (k : Int) < (n : Int) := by omega
      have e1 : (x != x) = false := by simp
      go_wp2
      go_quiet (fail)
      go_wp2
      exact ⟨⟨k + 1, by omega, by go_num, _, rfl⟩, by simp [intOf]; omega⟩
    · have h1 : decide ((k : Int) < (n : Int)) = false := decide_eq_false (by omega)
      go_wp2
      go_ret
      exact ⟨rfl, m, rfl⟩
def wyc (s : S) (A : Option Addr) (n c : Nat) (step N kind : Int) (held : Bool) : Array Value := #[.string s.nm, .slice A n c, iv s.a2, iv s.a3, iv s.a4, iv s.a5, iv s.a6, iv s.a7, iv s.a8, iv s.a9, iv s.a10, iv s.a11, iv s.a12, iv step, iv N, iv kind, .bool held]
theorem wy_smp {w : World} {g : Nat} {s : S} {A : Option Addr} {n c : Nat} {step N kind : Int} {held : Bool} (hg : w.heap[g]? = some (.cells (wyc s A n c step N kind held) 54 (0, 0))) : w.rangeAt g 0 (s.cs A n c).toList := by
  intro j v hj
  rw [Nat.zero_add, bkCell hg j]
  have hl : j < 13 := by
    have := (List.getElem?_eq_some_iff.1 hj).1
    simpa [S.cs] using this
  have e : ∀ j, j < 13 → (wyc s A n c step N kind held)[j]? = (s.cs A n c).toList[j]? := by
    intro j hj
    rcases (by omega : j = 0 ∨ j = 1 ∨ j = 2 ∨ j = 3 ∨ j = 4 ∨ j = 5 ∨ j = 6 ∨ j = 7 ∨ j = 8 ∨ j = 9 ∨ j = 10 ∨ j = 11 ∨ j = 12) with rfl | rfl | rfl | rfl | rfl | rfl | rfl | rfl | rfl | rfl | rfl | rfl | rfl <;> rfl
  rw [e j hl]
  exact hj
theorem resN_le (s : S) (n : Nat) (xs : Nat → Int) (step N kind : Int) : resN s n xs step N kind ≤ 200000 := by
  unfold resN
  split
  · rename_i h
    unfold rsOk at h
    omega
  · omega
set_option maxHeartbeats 16000000 in
set_option maxRecDepth 100000 in
theorem res_wild (s : S) (A : Option Addr) (n c0 b o : Nat) (xs : Nat → Int) (step N kind : Int) (held : Bool) (ht : decide (n ≤ 5000 ∧ s.nm.size ≤ 100) = false) (hn : n ≤ 9223372036854775807) (hc0 : n ≤ c0) (w : World) (hA : DataAt w A n b o xs) : Calls Try.prog 11 #[.agg (wyc s A n c0 step N kind held)] w fun e w' => e = .returned (.bool true) ∧ Below w.heap.size w w' := by
  have B0 : Below w.heap.size w (w.alloc (Obj.cells (wyc s A n c0 step N kind held) 54)) := (Below.refl _ _).alloc (Nat.le_refl _) _
  have P0 := Lib.hid (show (w.alloc (Obj.cells (wyc s A n c0 step N kind held) 54)).heap[w.heap.size]? = some (.cells (wyc s A n c0 step N kind held) 54 (0, 0)) from heap_alloc_new w _)
  have D0 := Lib.hid (hA.later B0)
  have TQ := Lib.hid fun (W : World) => itame_any s A n c0 W
  rw [ht] at TQ
  clear ht hA
  go_enter Try.func11, Try.ntmps11
  go_wp2_with (first
    | (refine wpList_load_mid rfl 24 (.tmp 7) rfl (w.heap.size) 0 rfl (s.cs A n c0).toList _ (wy_smp P0.out) Try.underlying24 rfl (by simpa using S.i24 s A n c0) ?_)
    | (go_at_call 40; (with_reducible refine (TQ.out _).mono ?_); rintro e w1 ⟨rfl, hb1⟩; have P1 := Lib.hid (bkBelow P0.out hb1); have D1 := Lib.hid (D0.out.later hb1); have B1 := bdT B0 B0.size hb1; have zn := (bkCell P1.out 14).trans (show _ = some (iv N) from rfl)))
  go_ret
  exact ⟨rfl, B1⟩
set_option maxHeartbeats 16000000 in
set_option maxRecDepth 100000 in
theorem res_long (s : S) (A : Option Addr) (n c0 b o : Nat) (xs : Nat → Int) (step N kind : Int) (held : Bool) (ht : decide (n ≤ 5000 ∧ s.nm.size ≤ 100) = true) (hN : 2000 < N) (hn : n ≤ 9223372036854775807) (hc0 : n ≤ c0) (w : World) (hA : DataAt w A n b o xs) : Calls Try.prog 11 #[.agg (wyc s A n c0 step N kind held)] w fun e w' => e = .returned (.bool true) ∧ Below w.heap.size w w' := by
  have B0 : Below w.heap.size w (w.alloc (Obj.cells (wyc s A n c0 step N kind held) 54)) := (Below.refl _ _).alloc (Nat.le_refl _) _
  have P0 := Lib.hid (show (w.alloc (Obj.cells (wyc s A n c0 step N kind held) 54)).heap[w.heap.size]? = some (.cells (wyc s A n c0 step N kind held) 54 (0, 0)) from heap_alloc_new w _)
  have D0 := Lib.hid (hA.later B0)
  have TQ := Lib.hid fun (W : World) => itame_any s A n c0 W
  rw [ht] at TQ
  have d1 : decide (2000 < N) = true := decide_eq_true hN
  clear ht hA
  go_enter Try.func11, Try.ntmps11
  go_wp2_with (first
    | (refine wpList_load_mid rfl 24 (.tmp 7) rfl (w.heap.size) 0 rfl (s.cs A n c0).toList _ (wy_smp P0.out) Try.underlying24 rfl (by simpa using S.i24 s A n c0) ?_)
    | (go_at_call 40; (with_reducible refine (TQ.out _).mono ?_); rintro e w1 ⟨rfl, hb1⟩; have P1 := Lib.hid (bkBelow P0.out hb1); have D1 := Lib.hid (D0.out.later hb1); have B1 := bdT B0 B0.size hb1; have zn := (bkCell P1.out 14).trans (show _ = some (iv N) from rfl)))
  go_ret
  exact ⟨rfl, B1⟩
set_option maxHeartbeats 16000000 in
set_option maxRecDepth 100000 in
theorem res_same (s : S) (A : Option Addr) (n c0 b o : Nat) (xs : Nat → Int) (step N kind : Int) (held : Bool) (ht : decide (n ≤ 5000 ∧ s.nm.size ≤ 100) = true) (hN : N ≤ 2000) (hn : n ≤ 9223372036854775807) (hc0 : n ≤ c0) (w : World) (hA : DataAt w A n b o xs) : Calls Try.prog 11 #[.agg (wyc s A n c0 step N kind held)] w fun e w' => e = .returned (.bool true) ∧ Below w.heap.size w w' := by
  have B0 : Below w.heap.size w (w.alloc (Obj.cells (wyc s A n c0 step N kind held) 54)) := (Below.refl _ _).alloc (Nat.le_refl _) _
  have P0 := Lib.hid (show (w.alloc (Obj.cells (wyc s A n c0 step N kind held) 54)).heap[w.heap.size]? = some (.cells (wyc s A n c0 step N kind held) 54 (0, 0)) from heap_alloc_new w _)
  have D0 := Lib.hid (hA.later B0)
  have TQ := Lib.hid fun (W : World) => itame_any s A n c0 W
  rw [ht] at TQ
  have d1 : decide (2000 < N) = false := decide_eq_false (by omega)
  have HM := Lib.hid (resN_le s n xs step N kind)
  have IC := Lib.hid fun (W : World) (h : DataAt W A n b o xs) => ires_any s A n c0 b o xs step N kind held hn hc0 W h
  have RC := Lib.hid fun (W : World) (h : DataAt W A n b o xs) => rres_any s A n c0 b o xs step N kind held hn hc0 W h
  generalize resN s n xs step N kind = m at *
  generalize resE s n xs step N kind = er at *
  have ee : (er == er) = true := by simp
  clear ht hA hN
  go_enter Try.func11, Try.ntmps11
  go_upto_region 3 with (first
    | (refine wpList_load_mid rfl 24 (.tmp 7) rfl (w.heap.size) 0 rfl (s.cs A n c0).toList _ (wy_smp P0.out) Try.underlying24 rfl (by simpa using S.i24 s A n c0) ?_)
    | (go_at_call 40; (with_reducible refine (TQ.out _).mono ?_); rintro e w1 ⟨rfl, hb1⟩; have P1 := Lib.hid (bkBelow P0.out hb1); have D1 := Lib.hid (D0.out.later hb1); have B1 := bdT B0 B0.size hb1; have zn := (bkCell P1.out 14).trans (show _ = some (iv N) from rfl)))
  clear d1 zn
  have z13 := (bkCell P1.out 13).trans (show _ = some (iv step) from rfl)
  have z14 := (bkCell P1.out 14).trans (show _ = some (iv N) from rfl)
  have z15 := (bkCell P1.out 15).trans (show _ = some (iv kind) from rfl)
  have z16 := (bkCell P1.out 16).trans (show _ = some (.bool held) from rfl)
  go_upto_region 4 with (first
    | (refine wpList_load_mid rfl 24 (.tmp 17) rfl (w.heap.size) 0 rfl (s.cs A n c0).toList _ (wy_smp P1.out) Try.underlying24 rfl (by simpa using S.i24 s A n c0) ?_)
    | (go_at_call 43; (with_reducible refine (IC.out _ D1.out).mono ?_); rintro e w2 ⟨A1, c1, b1, o1, rfl, hX, hb2⟩; have P2 := Lib.hid (bkBelow P1.out hb2); have D2 := Lib.hid (D1.out.later hb2); have B2 := bdT B1 B1.size hb2; have X2 := Lib.hid hX; clear hX hb2))
  clear z13 z14 z15 z16
  have z13 := (bkCell P2.out 13).trans (show _ = some (iv step) from rfl)
  have z14 := (bkCell P2.out 14).trans (show _ = some (iv N) from rfl)
  have z15 := (bkCell P2.out 15).trans (show _ = some (iv kind) from rfl)
  have z16 := (bkCell P2.out 16).trans (show _ = some (.bool held) from rfl)
  go_upto_region 5 with (first
    | (refine wpList_load_mid rfl 24 (.tmp 31) rfl (w.heap.size) 0 rfl (s.cs A n c0).toList _ (wy_smp P2.out) Try.underlying24 rfl (by simpa using S.i24 s A n c0) ?_)
    | (go_at_call 44; (with_reducible refine (RC.out _ D2.out).mono ?_); rintro e w3 ⟨A2, c2, b2, o2, rfl, hY, hb3⟩; have X3 := Lib.hid (X2.out.later hb3); have B3 := bdT B2 B2.size hb3; have Y3 := Lib.hid hY; clear hY hb3))
  clear z13 z14 z15 z16
  have EQ := Lib.hid (equal_yes A1 A2 m c1 c2 b1 o1 b2 o2 (resF s n xs step held kind.toNat) (by have := HM.out; omega) w3 X3.out Y3.out)
  go_wp2_with (go_at_call 45; (with_reducible refine EQ.out.mono ?_); rintro e w4 ⟨rfl, mm, rfl⟩)
  go_ret
  exact ⟨rfl, bdN B3 mm⟩
theorem res_law (s : S) (A : Option Addr) (n c0 : Nat) (zs : List Int) (step N kind : Int) (held : Bool) (w : World) (h : RowOf w A n c0 zs) : Calls Try.prog 11 #[.agg (wyc s A n c0 step N kind held)] w fun e w' => e = .returned (.bool true) ∧ Below w.heap.size w w' := by
  obtain ⟨k1, hn, b, o, d1⟩ := dataOf h
  cases ht : decide (n ≤ 5000 ∧ s.nm.size ≤ 100)
  · exact res_wild s A n c0 b o _ step N kind held ht hn k1 w d1
  · by_cases hN : 2000 < N
    · exact res_long s A n c0 b o _ step N kind held ht hN hn k1 w d1
    · exact res_same s A n c0 b o _ step N kind held ht (by omega) hn k1 w d1
end Go.Proofs.Ytnmoiolddfboiaa.SX

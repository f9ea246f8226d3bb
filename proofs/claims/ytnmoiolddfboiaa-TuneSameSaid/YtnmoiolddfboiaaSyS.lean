/- A sample at another rate: both tell the same; at its own rate it is itself. -/
import Derived.Test.YtnmoiolddfboiaaSyR
namespace Go.Proofs.Ytnmoiolddfboiaa.SX
open Go.RowKit Go.Proofs.YtnmoiolddfboiaaW.PrintLast Go.Proofs.Ytnmoiolddfboiaa.TX Go.Proofs.Ytnmoiolddfboiaa.Cu
set_option linter.unusedVariables false
set_option linter.unusedSimpArgs false
set_option maxHeartbeats 4000000 in
set_option maxRecDepth 100000 in
theorem same_e (A D : Option Addr) (c d : Nat) (k : Int) (hk : k ≠ 0) (w : World) : Calls Try.prog 49 #[.agg (S.zero.cs A 0 c), .agg (S.zero.cs D 0 d), iv k, iv k] w fun e w' => e = .returned (.bool true) ∧ Below w.heap.size w w' := by
  have p1 := old2 w (S.zero.cs A 0 c) (S.zero.cs D 0 d) 1 (show _ = some (Value.slice A 0 c) from rfl)
  have p3 := old2 w (S.zero.cs A 0 c) (S.zero.cs D 0 d) 3 (show _ = some (iv 0) from rfl)
  have e0 : (k == k) = true := by simp
  have e1 : (k != 0) = true := by simp [hk]
  go_enter Try.func49, Try.ntmps49
  go_wp2
  go_ret
  exact ⟨rfl, ((Below.refl _ _).alloc (Nat.le_refl _) _).alloc (by simp) _⟩
/-- what both packages answer -/
theorem both_rs (s : S) (n : Nat) (xs : Nat → Int) (num den kind : Int) (hn : n ≤ 9223372036854775807) : ∃ u m ys er, m ≤ 1000000 ∧ (er ≠ 0 → u = S.zero ∧ m = 0) ∧ (∀ A c0 b o, n ≤ c0 → ∀ w, DataAt w A n b o xs → GivesD 47 #[.agg (s.cs A n c0), iv num, iv den, iv kind] w u m ys er) ∧ (∀ A c0 b o, n ≤ c0 → ∀ w, DataAt w A n b o xs → GivesD 48 #[.agg (s.cs A n c0), iv num, iv den, iv kind] w u m ys er) := by
  cases hv : vS s n xs
  · exact ⟨S.zero, 0, fun _ => 0, 1, by omega, fun _ => ⟨rfl, rfl⟩, fun A c0 b o hc0 w hA => gives_D (tres_bad s A n c0 b o xs num den kind hv hn hc0 w hA), fun A c0 b o hc0 w hA => gives_D (rres5_bad s A n c0 b o xs num den kind hv hn hc0 w hA)⟩
  by_cases hk : kind < 0 ∨ 4 < kind
  · exact ⟨S.zero, 0, fun _ => 0, 6, by omega, fun _ => ⟨rfl, rfl⟩, fun A c0 b o hc0 w hA => gives_D (tres_kind s A n c0 b o xs num den kind hv hk hn hc0 w hA), fun A c0 b o hc0 w hA => gives_D (rres5_kind s A n c0 b o xs num den kind hv hk hn hc0 w hA)⟩
  have hk2 : 0 ≤ kind ∧ kind ≤ 4 := by omega
  by_cases hr : num < 1 ∨ 10000 < num
  · exact ⟨S.zero, 0, fun _ => 0, 5, by omega, fun _ => ⟨rfl, rfl⟩, fun A c0 b o hc0 w hA => gives_D (tres_num s A n c0 b o xs num den kind hv hk2 hr hn hc0 w hA), fun A c0 b o hc0 w hA => gives_D (rres5_num s A n c0 b o xs num den kind hv hk2 hr hn hc0 w hA)⟩
  have hr1 : 1 ≤ num ∧ num ≤ 10000 := by omega
  by_cases hd : den < 1 ∨ 10000 < den
  · exact ⟨S.zero, 0, fun _ => 0, 5, by omega, fun _ => ⟨rfl, rfl⟩, fun A c0 b o hc0 w hA => gives_D (tres_den s A n c0 b o xs num den kind hv hk2 hr1 hd hn hc0 w hA), fun A c0 b o hc0 w hA => gives_D (rres5_den s A n c0 b o xs num den kind hv hk2 hr1 hd hn hc0 w hA)⟩
  have hd1 : 1 ≤ den ∧ den ≤ 10000 := by omega
  by_cases hq : 4096 < (n : Int) * num / den
  · exact ⟨S.zero, 0, fun _ => 0, 4, by omega, fun _ => ⟨rfl, rfl⟩, fun A c0 b o hc0 w hA => gives_D (tres_long s A n c0 b o xs num den kind hv hk2 hr1 hd1 _ rfl hq hn hc0 w hA), fun A c0 b o hc0 w hA => gives_D (rres5_long s A n c0 b o xs num den kind hv hk2 hr1 hd1 _ rfl hq hn hc0 w hA)⟩
  · have q0 : 0 ≤ (n : Int) * num / den := Int.ediv_nonneg (Int.mul_nonneg (by omega) (by omega)) (by omega)
    obtain ⟨m, hm⟩ := Int.eq_ofNat_of_zero_le q0
    obtain ⟨K, rfl⟩ := Int.eq_ofNat_of_zero_le hk2.1
    have hm4 : m ≤ 4096 := by omega
    exact ⟨rsmS s num den, m, rsmF s n xs num den K, 0, by omega, fun h => absurd rfl h, fun A c0 b o hc0 w hA => gives_D (tres_ok s A n c0 b o xs num den K m hv (by omega) hr1 hd1 hm hm4 hn hc0 w hA), fun A c0 b o hc0 w hA => rres5_ok s A n c0 b o xs num den K m hv (by omega) hr1 hd1 hm hm4 hn hc0 w hA⟩
def twc (s : S) (A : Option Addr) (n c : Nat) (x y z u : Int) : Array Value := #[.string s.nm, .slice A n c, iv s.a2, iv s.a3, iv s.a4, iv s.a5, iv s.a6, iv s.a7, iv s.a8, iv s.a9, iv s.a10, iv s.a11, iv s.a12, iv x, iv y, iv z, iv u]
theorem tw_smp {w : World} {g : Nat} {s : S} {A : Option Addr} {n c : Nat} {x y z u : Int} (hg : w.heap[g]? = some (.cells (twc s A n c x y z u) 58 (0, 0))) : w.rangeAt g 0 (s.cs A n c).toList := by
  intro j v hj
  rw [Nat.zero_add, bkCell hg j]
  have hl : j < 13 := by
    have := (List.getElem?_eq_some_iff.1 hj).1
    simpa [S.cs] using this
  have e : ∀ j, j < 13 → (twc s A n c x y z u)[j]? = (s.cs A n c).toList[j]? := by
    intro j hj
    rcases (by omega : j = 0 ∨ j = 1 ∨ j = 2 ∨ j = 3 ∨ j = 4 ∨ j = 5 ∨ j = 6 ∨ j = 7 ∨ j = 8 ∨ j = 9 ∨ j = 10 ∨ j = 11 ∨ j = 12) with rfl | rfl | rfl | rfl | rfl | rfl | rfl | rfl | rfl | rfl | rfl | rfl | rfl <;> rfl
  rw [e j hl]
  exact hj
theorem gives_Dc {F : FuncId} {args : Array Value} {w : World} {t : S} {m : Nat} {ys : Nat → Int} {er : Int} (h : GivesD F args w t m ys er) :
    Calls Try.prog F args w fun e w' => ∃ A' c' b' o', e = .returned (.tuple #[.agg (t.cs A' m c'), iv er]) ∧ DataAt w' A' m b' o' ys ∧ Below w.heap.size w w' := h
set_option maxHeartbeats 16000000 in
set_option maxRecDepth 100000 in
theorem rsl_wild (s : S) (A : Option Addr) (n c0 b o : Nat) (xs : Nat → Int) (x y z u : Int) (ht : decide (n ≤ 5000 ∧ s.nm.size ≤ 100) = false) (hn : n ≤ 9223372036854775807) (hc0 : n ≤ c0) (w : World) (hA : DataAt w A n b o xs) : Calls Try.prog 12 #[.agg (twc s A n c0 x y z u)] w fun e w' => e = .returned (.bool true) ∧ Below w.heap.size w w' := by
  have B0 : Below w.heap.size w (w.alloc (Obj.cells (twc s A n c0 x y z u) 58)) := (Below.refl _ _).alloc (Nat.le_refl _) _
  have P0 := Lib.hid (show (w.alloc (Obj.cells (twc s A n c0 x y z u) 58)).heap[w.heap.size]? = some (.cells (twc s A n c0 x y z u) 58 (0, 0)) from heap_alloc_new w _)
  have D0 := Lib.hid (hA.later B0)
  have TQ := Lib.hid fun (W : World) => tame_any s A n c0 W
  rw [ht] at TQ
  clear ht hA
  go_enter Try.func12, Try.ntmps12
  go_wp2_with (first
    | (refine wpList_load_mid rfl 24 (.tmp 7) rfl (w.heap.size) 0 rfl (s.cs A n c0).toList _ (tw_smp P0.out) Try.underlying24 rfl (by simpa using S.i24 s A n c0) ?_)
    | (go_at_call 46; (with_reducible refine (TQ.out _).mono ?_); rintro e w1 ⟨rfl, hb1⟩; have P1 := Lib.hid (bkBelow P0.out hb1); have D1 := Lib.hid (D0.out.later hb1); have B1 := bdT B0 B0.size hb1))
  go_ret
  exact ⟨rfl, B1⟩
set_option maxHeartbeats 16000000 in
set_option maxRecDepth 100000 in
theorem rsl_same (s : S) (A : Option Addr) (n c0 b o : Nat) (xs : Nat → Int) (x y z u : Int) (ht : decide (n ≤ 5000 ∧ s.nm.size ≤ 100) = true) (hn : n ≤ 9223372036854775807) (hc0 : n ≤ c0) (w : World) (hA : DataAt w A n b o xs) : Calls Try.prog 12 #[.agg (twc s A n c0 x y z u)] w fun e w' => e = .returned (.bool true) ∧ Below w.heap.size w w' := by
  have B0 : Below w.heap.size w (w.alloc (Obj.cells (twc s A n c0 x y z u) 58)) := (Below.refl _ _).alloc (Nat.le_refl _) _
  have P0 := Lib.hid (show (w.alloc (Obj.cells (twc s A n c0 x y z u) 58)).heap[w.heap.size]? = some (.cells (twc s A n c0 x y z u) 58 (0, 0)) from heap_alloc_new w _)
  have D0 := Lib.hid (hA.later B0)
  have TQ := Lib.hid fun (W : World) => tame_any s A n c0 W
  rw [ht] at TQ
  obtain ⟨t, m, ys, er, hm, her, ga, gb⟩ := both_rs s n xs x y z hn
  have GA := Lib.hid fun (W : World) (h : DataAt W A n b o xs) => gives_Dc (ga A c0 b o hc0 W h)
  have GB := Lib.hid fun (W : World) (h : DataAt W A n b o xs) => gives_Dc (gb A c0 b o hc0 W h)
  have SQ := Lib.hid fun (A1 A2 : Option Addr) (c1 c2 b1 o1 b2 o2 : Nat) (W : World) (h : DataAt W A1 m b1 o1 ys) (k : DataAt W A2 m b2 o2 ys) => (show Calls Try.prog 49 #[.agg (t.cs A1 m c1), .agg (t.cs A2 m c2), iv er, iv er] W fun e w' => e = .returned (.bool true) ∧ Below W.heap.size W w' from by
    by_cases h0 : er = 0
    · subst h0
      exact same_ok t A1 m c1 A2 c2 b1 o1 b2 o2 ys hm W h k
    · obtain ⟨rfl, rfl⟩ := her h0
      exact same_e A1 A2 c1 c2 er h0 W)
  clear ht hA hm her ga gb
  go_enter Try.func12, Try.ntmps12
  go_upto_region 3 with (first
    | (refine wpList_load_mid rfl 24 (.tmp 7) rfl (w.heap.size) 0 rfl (s.cs A n c0).toList _ (tw_smp P0.out) Try.underlying24 rfl (by simpa using S.i24 s A n c0) ?_)
    | (go_at_call 46; (with_reducible refine (TQ.out _).mono ?_); rintro e w1 ⟨rfl, hb1⟩; have P1 := Lib.hid (bkBelow P0.out hb1); have D1 := Lib.hid (D0.out.later hb1); have B1 := bdT B0 B0.size hb1))
  have z13 := (bkCell P1.out 13).trans (show _ = some (iv x) from rfl)
  have z14 := (bkCell P1.out 14).trans (show _ = some (iv y) from rfl)
  have z15 := (bkCell P1.out 15).trans (show _ = some (iv z) from rfl)
  go_upto_region 4 with (first
    | (refine wpList_load_mid rfl 24 (.tmp 12) rfl (w.heap.size) 0 rfl (s.cs A n c0).toList _ (tw_smp P1.out) Try.underlying24 rfl (by simpa using S.i24 s A n c0) ?_)
    | (go_at_call 47; (with_reducible refine (GA.out _ D1.out).mono ?_); rintro e w2 ⟨A1, c1, b1, o1, rfl, X1, hb2⟩; have P2 := Lib.hid (bkBelow P1.out hb2); have D2 := Lib.hid (D1.out.later hb2); have B2 := bdT B1 B1.size hb2; have E2 := Lib.hid (X1); clear P1 D1)
    | (refine wpList_store_row rfl 24 (.tmp 3) (.tmp 21) rfl (w2.heap.size) (t.cs A1 m c1) rfl rfl 24 _ (heap_alloc_new w2 (Obj.cells #[Value.string ⟨#[]⟩, Value.slice none 0 0, iv 0, iv 0, iv 0, iv 0, iv 0, iv 0, iv 0, iv 0, iv 0, iv 0, iv 0] 24)) (S.i24 _ _ _ _) (S.sz S.zero _ none _ 0 0 _ _) (S.one _ _ _ _) ?_; have K3 := below_setRow ((Below.refl w2.heap.size w2).alloc (Nat.le_refl _) (Obj.cells #[Value.string ⟨#[]⟩, Value.slice none 0 0, iv 0, iv 0, iv 0, iv 0, iv 0, iv 0, iv 0, iv 0, iv 0, iv 0, iv 0] 24)) (g := w2.heap.size) (Nat.le_refl _) (t.cs A1 m c1); have P3 := Lib.hid (bkBelow P2.out K3); have D3 := Lib.hid (D2.out.later K3); have E3 := Lib.hid (E2.out.later K3); have B3 := bdT B2 B2.size K3; have T3 := Lib.hid (setRow_heap _ _ _ (t.cs A1 m c1) _ _ (heap_alloc_new w2 (Obj.cells #[Value.string ⟨#[]⟩, Value.slice none 0 0, iv 0, iv 0, iv 0, iv 0, iv 0, iv 0, iv 0, iv 0, iv 0, iv 0, iv 0] 24))); clear P2 D2 E2))
  clear z13 z14 z15
  have z13 := (bkCell P3.out 13).trans (show _ = some (iv x) from rfl)
  have z14 := (bkCell P3.out 14).trans (show _ = some (iv y) from rfl)
  have z15 := (bkCell P3.out 15).trans (show _ = some (iv z) from rfl)
  go_upto_region 5 with (first
    | (refine wpList_load_mid rfl 24 (.tmp 24) rfl (w.heap.size) 0 rfl (s.cs A n c0).toList _ (tw_smp P3.out) Try.underlying24 rfl (by simpa using S.i24 s A n c0) ?_)
    | (go_at_call 48; (with_reducible refine (GB.out _ D3.out).mono ?_); rintro e w4 ⟨A2, c2, b2, o2, rfl, X2, hb4⟩; have P4 := Lib.hid (bkBelow P3.out hb4); have D4 := Lib.hid (D3.out.later hb4); have E4 := Lib.hid (E3.out.later hb4); have T4 := Lib.hid (bkBelow T3.out hb4); have B4 := bdT B3 B3.size hb4; have F4 := Lib.hid (X2); clear P3 D3 E3 T3)
    | (refine wpList_store_row rfl 24 (.tmp 5) (.tmp 33) rfl (w4.heap.size) (t.cs A2 m c2) rfl rfl 24 _ (heap_alloc_new w4 (Obj.cells #[Value.string ⟨#[]⟩, Value.slice none 0 0, iv 0, iv 0, iv 0, iv 0, iv 0, iv 0, iv 0, iv 0, iv 0, iv 0, iv 0] 24)) (S.i24 _ _ _ _) (S.sz S.zero _ none _ 0 0 _ _) (S.one _ _ _ _) ?_; have K5 := below_setRow ((Below.refl w4.heap.size w4).alloc (Nat.le_refl _) (Obj.cells #[Value.string ⟨#[]⟩, Value.slice none 0 0, iv 0, iv 0, iv 0, iv 0, iv 0, iv 0, iv 0, iv 0, iv 0, iv 0, iv 0] 24)) (g := w4.heap.size) (Nat.le_refl _) (t.cs A2 m c2); have P5 := Lib.hid (bkBelow P4.out K5); have D5 := Lib.hid (D4.out.later K5); have E5 := Lib.hid (E4.out.later K5); have T5 := Lib.hid (bkBelow T4.out K5); have F5 := Lib.hid (F4.out.later K5); have B5 := bdT B4 B4.size K5; have U5 := Lib.hid (setRow_heap _ _ _ (t.cs A2 m c2) _ _ (heap_alloc_new w4 (Obj.cells #[Value.string ⟨#[]⟩, Value.slice none 0 0, iv 0, iv 0, iv 0, iv 0, iv 0, iv 0, iv 0, iv 0, iv 0, iv 0, iv 0] 24))); clear P4 D4 E4 T4 F4))
  clear z13 z14 z15
  have SC := Lib.hid (SQ.out A1 A2 c1 c2 b1 o1 b2 o2 _ E5.out F5.out)
  go_wp2_with (first
    | (refine wpList_load_row rfl 24 (.tmp 3) rfl (w2.heap.size) rfl 24 _ (0, 0) _ T5.out Try.underlying24 rfl (S.i24 _ _ _ _) ?_)
    | (refine wpList_load_row rfl 24 (.tmp 5) rfl (w4.heap.size) rfl 24 _ (0, 0) _ U5.out Try.underlying24 rfl (S.i24 _ _ _ _) ?_)
    | (go_at_call 49; (with_reducible refine SC.out.mono ?_); rintro e w6 ⟨rfl, hb6⟩))
  go_ret
  exact ⟨rfl, bdT B5 B5.size hb6⟩
theorem rsl_law (s : S) (A : Option Addr) (n c0 : Nat) (zs : List Int) (x y z u : Int) (w : World) (h : RowOf w A n c0 zs) : Calls Try.prog 12 #[.agg (twc s A n c0 x y z u)] w fun e w' => e = .returned (.bool true) ∧ Below w.heap.size w w' := by
  obtain ⟨k1, hn, b, o, d1⟩ := dataOf h
  cases ht : decide (n ≤ 5000 ∧ s.nm.size ≤ 100)
  · exact rsl_wild s A n c0 b o _ x y z u ht hn k1 w d1
  · exact rsl_same s A n c0 b o _ x y z u ht hn k1 w d1
end Go.Proofs.Ytnmoiolddfboiaa.SX

/- A sample unrolled by the reference: the same values. -/
import Derived.Test.YtnmoiolddfboiaaSxI
import Derived.Test.YtnmoiolddfboiaaSxN
import Derived.Laws.AppendOwn
import Derived.Deep.AppendLies
namespace Go.Proofs.Ytnmoiolddfboiaa.SX
open Go.RowKit Go.Proofs.YtnmoiolddfboiaaW.PrintLast Go.Proofs.Ytnmoiolddfboiaa.TX Go.Proofs.Ytnmoiolddfboiaa.Cu
set_option linter.unusedVariables false
set_option linter.unusedSimpArgs false
theorem ownV {w w1 : World} {B n : Nat} {v : Value} {xs : List Value} (h : w.ownsRow B 3 1 v n xs) (hb : Below w.heap.size w w1) : w1.ownsRow B 3 1 v n xs := by
  refine ⟨h.1, ?_⟩
  rcases h.2 with h' | ⟨g', cap', cur, h', h1, hg, h2⟩
  · exact .inl h'
  · exact .inr ⟨g', cap', cur, h', h1, bkBelow hg hb, h2⟩
theorem ownVR {w : World} {B n k : Nat} {v : Value} {xs : List Value} (h : w.ownsRow B 3 1 v n xs) (hk : k < B) (cs : Array Value) : (w.setRow k cs).ownsRow B 3 1 v n xs := by
  refine ⟨h.1, ?_⟩
  rcases h.2 with h' | ⟨g', cap', cur, h', h1, hg, h2⟩
  · exact .inl h'
  · exact .inr ⟨g', cap', cur, h', h1, (setRow_other w k g' cs (by omega)).trans hg, h2⟩
theorem rw_more (F : Nat → Int) (j : Nat) : rw_ F j ++ [iv (F j)] = rw_ F (j + 1) := by
  unfold rw_
  rw [List.range_succ, List.map_append]
  rfl
set_option maxHeartbeats 16000000 in
set_option maxRecDepth 100000 in
theorem runroll_bad (s : S) (A : Option Addr) (n c0 b o : Nat) (xs : Nat → Int) (N : Int) (held : Bool) (hv : vS s n xs = false) (hn : n ≤ 9223372036854775807) (hc0 : n ≤ c0) (w : World) (hA : DataAt w A n b o xs) : Calls Try.prog 29 #[.agg (s.cs A n c0), iv N, .bool held] w fun e w' => ∃ A' c' b' o', e = .returned (.tuple #[.slice A' 0 c', iv 1]) ∧ DataAt w' A' 0 b' o' (fun _ => 0) ∧ Below w.heap.size w w' := by
  have B0 : Below w.heap.size w (w.alloc (Obj.cells (s.cs A n c0) 24)) := (Below.refl _ _).alloc (Nat.le_refl _) _
  have P0 := Lib.hid (show (w.alloc (Obj.cells (s.cs A n c0) 24)).heap[w.heap.size]? = some (.cells (s.cs A n c0) 24 (0, 0)) from heap_alloc_new w _)
  have D0 := Lib.hid (hA.later B0)
  have VC := Lib.hid (show ∀ (W : World), DataAt W A n b o xs → Calls Try.prog 25 #[.agg (s.cs A n c0)] W fun e w' => e = .returned (.bool false) ∧ Below W.heap.size W w' from fun W h => by have := rvalid_any s A n c0 b o xs hn hc0 W h; rwa [hv] at this)
  clear hA hv
  go_enter Try.func29, Try.ntmps29
  go_wp2_with (first
    | (refine wpList_load_row rfl 24 (.tmp 3) rfl (w.heap.size) rfl 24 _ (0, 0) _ P0.out Try.underlying24 rfl (S.i24 _ _ _ _) ?_)
    | (go_at_call 25; (with_reducible refine (VC.out _ D0.out).mono ?_); rintro e w1 ⟨rfl, hb1⟩; have P1 := Lib.hid (bkBelow P0.out hb1); have D1 := Lib.hid (D0.out.later hb1); have B1 := bdT B0 B0.size hb1))
  go_ret2
  exact ⟨none, 0, 0, 0, rfl, ⟨fun h => by omega, fun h => by omega, fun i h => by omega⟩, B1⟩
set_option maxHeartbeats 16000000 in
set_option maxRecDepth 100000 in
theorem runroll_rnga (s : S) (A : Option Addr) (n c0 b o : Nat) (xs : Nat → Int) (N : Int) (held : Bool) (hv : vS s n xs = true) (hN : N < 0) (hn : n ≤ 9223372036854775807) (hc0 : n ≤ c0) (w : World) (hA : DataAt w A n b o xs) : Calls Try.prog 29 #[.agg (s.cs A n c0), iv N, .bool held] w fun e w' => ∃ A' c' b' o', e = .returned (.tuple #[.slice A' 0 c', iv 5]) ∧ DataAt w' A' 0 b' o' (fun _ => 0) ∧ Below w.heap.size w w' := by
  have B0 : Below w.heap.size w (w.alloc (Obj.cells (s.cs A n c0) 24)) := (Below.refl _ _).alloc (Nat.le_refl _) _
  have P0 := Lib.hid (show (w.alloc (Obj.cells (s.cs A n c0) 24)).heap[w.heap.size]? = some (.cells (s.cs A n c0) 24 (0, 0)) from heap_alloc_new w _)
  have D0 := Lib.hid (hA.later B0)
  have VC := Lib.hid (show ∀ (W : World), DataAt W A n b o xs → Calls Try.prog 25 #[.agg (s.cs A n c0)] W fun e w' => e = .returned (.bool true) ∧ Below W.heap.size W w' from fun W h => by have := rvalid_any s A n c0 b o xs hn hc0 W h; rwa [hv] at this)
  have d0 : decide (N < 0) = true := decide_eq_true hN
  clear hA hv
  go_enter Try.func29, Try.ntmps29
  go_wp2_with (first
    | (refine wpList_load_row rfl 24 (.tmp 3) rfl (w.heap.size) rfl 24 _ (0, 0) _ P0.out Try.underlying24 rfl (S.i24 _ _ _ _) ?_)
    | (go_at_call 25; (with_reducible refine (VC.out _ D0.out).mono ?_); rintro e w1 ⟨rfl, hb1⟩; have P1 := Lib.hid (bkBelow P0.out hb1); have D1 := Lib.hid (D0.out.later hb1); have B1 := bdT B0 B0.size hb1))
  go_ret2
  exact ⟨none, 0, 0, 0, rfl, ⟨fun h => by omega, fun h => by omega, fun i h => by omega⟩, B1⟩
set_option maxHeartbeats 16000000 in
set_option maxRecDepth 100000 in
theorem runroll_rngb (s : S) (A : Option Addr) (n c0 b o : Nat) (xs : Nat → Int) (N : Int) (held : Bool) (hv : vS s n xs = true) (hN : 0 ≤ N) (hN1 : 200000 < N) (hn : n ≤ 9223372036854775807) (hc0 : n ≤ c0) (w : World) (hA : DataAt w A n b o xs) : Calls Try.prog 29 #[.agg (s.cs A n c0), iv N, .bool held] w fun e w' => ∃ A' c' b' o', e = .returned (.tuple #[.slice A' 0 c', iv 5]) ∧ DataAt w' A' 0 b' o' (fun _ => 0) ∧ Below w.heap.size w w' := by
  have B0 : Below w.heap.size w (w.alloc (Obj.cells (s.cs A n c0) 24)) := (Below.refl _ _).alloc (Nat.le_refl _) _
  have P0 := Lib.hid (show (w.alloc (Obj.cells (s.cs A n c0) 24)).heap[w.heap.size]? = some (.cells (s.cs A n c0) 24 (0, 0)) from heap_alloc_new w _)
  have D0 := Lib.hid (hA.later B0)
  have VC := Lib.hid (show ∀ (W : World), DataAt W A n b o xs → Calls Try.prog 25 #[.agg (s.cs A n c0)] W fun e w' => e = .returned (.bool true) ∧ Below W.heap.size W w' from fun W h => by have := rvalid_any s A n c0 b o xs hn hc0 W h; rwa [hv] at this)
  have d0 : decide (N < 0) = false := decide_eq_false (by omega)
  have d1 : decide (200000 < N) = true := decide_eq_true hN1
  clear hA hv
  go_enter Try.func29, Try.ntmps29
  go_wp2_with (first
    | (refine wpList_load_row rfl 24 (.tmp 3) rfl (w.heap.size) rfl 24 _ (0, 0) _ P0.out Try.underlying24 rfl (S.i24 _ _ _ _) ?_)
    | (go_at_call 25; (with_reducible refine (VC.out _ D0.out).mono ?_); rintro e w1 ⟨rfl, hb1⟩; have P1 := Lib.hid (bkBelow P0.out hb1); have D1 := Lib.hid (D0.out.later hb1); have B1 := bdT B0 B0.size hb1))
  go_ret2
  exact ⟨none, 0, 0, 0, rfl, ⟨fun h => by omega, fun h => by omega, fun i h => by omega⟩, B1⟩
set_option maxHeartbeats 16000000 in
set_option maxRecDepth 100000 in
theorem runroll_ok (s : S) (A : Option Addr) (n c0 b o : Nat) (xs : Nat → Int) (N : Nat) (held : Bool) (hv : vS s n xs = true) (hN : N ≤ 200000) (hn : n ≤ 9223372036854775807) (hc0 : n ≤ c0) (w : World) (hA : DataAt w A n b o xs) : Calls Try.prog 29 #[.agg (s.cs A n c0), iv N, .bool held] w fun e w' => ∃ A' c' b' o', e = .returned (.tuple #[.slice A' N c', iv 0]) ∧ DataAt w' A' N b' o' (unrF s n xs held) ∧ Below w.heap.size w w' := by
  obtain ⟨i0, hi, hz0, hz1, hz2⟩ := info_parts info3
  have HN := Lib.hid hN
  have HL := Lib.hid (vS_loops hv)
  have HX := Lib.hid (vS_frames hv)
  have d0 : decide ((N : Int) < 0) = false := decide_eq_false (by omega)
  have d1 : decide (200000 < (N : Int)) = false := decide_eq_false (by omega)
  have n0 : decide (200000 < N) = false := decide_eq_false (by omega)
  have l0 : (0 : Int) ≤ (N : Int) := by omega
  have B0 : Below w.heap.size w (w.alloc (Obj.cells (s.cs A n c0) 24)) := (Below.refl _ _).alloc (Nat.le_refl _) _
  have P0 := Lib.hid (show (w.alloc (Obj.cells (s.cs A n c0) 24)).heap[w.heap.size]? = some (.cells (s.cs A n c0) 24 (0, 0)) from heap_alloc_new w _)
  have D0 := Lib.hid (hA.later B0)
  have VC := Lib.hid (show ∀ (W : World), DataAt W A n b o xs → Calls Try.prog 25 #[.agg (s.cs A n c0)] W fun e w' => e = .returned (.bool true) ∧ Below W.heap.size W w' from fun W h => by have := rvalid_any s A n c0 b o xs hn hc0 W h; rwa [hv] at this)
  have KB := Lib.hid fun (W : World) (h : DataAt W A n b o xs) => rbegin_any s A n c0 b o xs 0 false (by omega) hn hc0 W h
  rw [show beginA s n xs 0 false = begM n 0 false from if_pos hv] at KB
  have HD := Lib.hid hA
  clear hA hv hN
  go_enter Try.func29, Try.ntmps29
  go_upto_region 6 with (first
    | (refine wpList_load_row rfl 24 (.tmp 3) rfl (w.heap.size) rfl 24 _ (0, 0) _ P0.out Try.underlying24 rfl (S.i24 _ _ _ _) ?_)
    | (go_at_call 25; (with_reducible refine (VC.out _ D0.out).mono ?_); rintro e w1 ⟨rfl, hb1⟩; have P1 := Lib.hid (bkBelow P0.out hb1); have D1 := Lib.hid (D0.out.later hb1); have B1 := bdT B0 B0.size hb1))
  clear d0 d1 n0
  go_upto_region 7 with (first
    | (refine wpList_load_row rfl 24 (.tmp 3) rfl (w.heap.size) rfl 24 _ (0, 0) _ P1.out Try.underlying24 rfl (S.i24 _ _ _ _) ?_)
    | (go_at_call 26; (with_reducible refine (KB.out _ D1.out).mono ?_); rintro e w2 ⟨rfl, hb2⟩; have P2 := Lib.hid (bkBelow P1.out hb2); have HP2 := Lib.hid (bkLt P2.out); have D2 := Lib.hid (D1.out.later hb2); have B2 := bdT B1 B1.size hb2; clear P1 D1)
    | (refine wpList_store_row rfl 26 (.tmp 9) (.tmp 23) rfl (w2.heap.size) (Cur.cs (begM n 0 false)) rfl rfl 26 _ (heap_alloc_new w2 (Obj.cells #[iv 0, iv 0, .bool false, .bool false] 26)) (Cur.i26 _) (Cur.sz Cur.zero _) (Cur.one _) ?_; have K3 := below_setRow ((Below.refl w2.heap.size w2).alloc (Nat.le_refl _) (Obj.cells #[iv 0, iv 0, .bool false, .bool false] 26)) (g := w2.heap.size) (Nat.le_refl _) (Cur.cs (begM n 0 false)); have P3 := Lib.hid (bkBelow P2.out K3); have D3 := Lib.hid (D2.out.later K3); have B3 := bdT B2 B2.size K3; have C3 := Lib.hid (setRow_heap _ _ _ (Cur.cs (begM n 0 false)) _ _ (heap_alloc_new w2 (Obj.cells #[iv 0, iv 0, .bool false, .bool false] 26))); clear P2 D2))
  go_upto_region 8 with (fail)
  go_loopw [8, 10] (fun v u wr => ∃ j : Nat, j ≤ N ∧ u = iv j ∧ wr.heap[w.heap.size]? = some (.cells (s.cs A n c0) 24 (0, 0)) ∧ wr.heap[w2.heap.size]? = some (.cells (Cur.cs (walkC s n held j)) 26 (0, 0)) ∧ wr.ownsRow (w2.heap.size + 1) 3 1 v j (rw_ (unrF s n xs held) j) ∧ Below w.heap.size w wr) (fun _ u _ => N - (intOf u).toNat)
  case atStart => exact ⟨0, by omega, rfl, P3.out, by rw [walk_zero]; exact C3.out, ⟨by simp [rw_], .inl ⟨rfl, rfl⟩⟩, B3⟩
  case round =>
    clear P3 D3 C3 B3
    obtain ⟨j, hj, rfl, hP, hC, hO, hB⟩ := hrel
    have P10 := Lib.hid hP
    have C10 := Lib.hid hC
    have O10 := Lib.hid hO
    have D10 := Lib.hid (HD.out.later hB)
    have B10 := hB
    have l3 : (0 : Int) ≤ (j : Int) := by omega
    have l5 : j ≤ 200000 := by have := HN.out; omega
    clear hP hC hB
    by_cases hlt : j < N
    · have l4 : (j : Int) < (N : Int) := by omega
      clear hO
      have HK := Lib.hid (walk_ok (s := s) (n := n) (held := held) HL.out j)
      obtain ⟨u, hu⟩ : ∃ u, unrF s n xs held j = u := ⟨_, rfl⟩
      have HU := Lib.hid hu
      have TC := Lib.hid (show ∀ W : World, DataAt W A n b o xs → Calls Try.prog 73 #[.agg (s.cs A n c0), .agg (Cur.cs (walkC s n held j)), iv 0, .bool held] W fun e w' => e = .returned (iv u) ∧ Below W.heap.size W w' from fun W h => by rw [← hu, unr_def]; exact tapped_any s A n c0 b o xs (walkC s n held j) 0 held HL.out HX.out HK.out (by omega) (by omega) W h)
      have GC := Lib.hid (show ∀ W : World, Calls Try.prog 64 #[.agg (s.cs A n c0), .agg (Cur.cs (walkC s n held j)), iv 65536, .bool held] W fun e w' => e = .returned (.agg (Cur.cs (walkC s n held (j + 1)))) ∧ Below W.heap.size W w' from fun W => by rw [walk_succ]; exact gone_any s A n c0 (walkC s n held j) 65536 held HL.out HK.out (by omega) (by omega) W)
      clear hu
      go_upto_region 11 with (first
        | (refine wpList_load_row rfl 24 (.tmp 3) rfl (w.heap.size) rfl 24 _ (0, 0) _ P10.out Try.underlying24 rfl (S.i24 _ _ _ _) ?_)
        | (refine wpList_load_row rfl 26 (.tmp 9) rfl (w2.heap.size) rfl 26 _ (0, 0) _ C10.out Try.underlying26 rfl (Cur.i26 _) ?_)
        | (go_at_call 73; (with_reducible refine (TC.out _ D10.out).mono ?_); rintro e w11 ⟨rfl, hb11⟩; have P11 := Lib.hid (bkBelow P10.out hb11); have C11 := Lib.hid (bkBelow C10.out hb11); have D11 := Lib.hid (D10.out.later hb11); have B11 := bdT B10 B10.size hb11; clear P10 C10 D10; have O11 := Lib.hid (ownV O10.out hb11))
        | (at_builtin; refine wpList_append_own _ rfl _ _ 22 rfl (w2.heap.size + 1) 3 i0 (.int .i64 0) 1 8 Try.underlying22 hi hz0 hz1 hz2 rfl (by decide) _ _ _ rfl (ownV O11.out ((Below.refl _ _).alloc (Nat.le_refl _) _)) ⟨w11.heap.size, 0, none⟩ 1 1 [iv u] rfl rfl (World.news_of_block (cs := #[iv u]) (t := 3) (fr := (0, 0)) (heap_alloc_new w11 _)) (by simp [Value.oneCell']) (by unfold maxLen; omega) (by omega) (by have := bkLt C11.out; simp; omega) ?_; intro v' w12 hown hgrow _))
      have P12 := Lib.hid (grBlk (bkAlloc P11.out _) hgrow (by intro h; have := ownRowB O11.out _ h.symm; have := HP2.out; omega))
      have C12 := Lib.hid (grBlk (bkAlloc C11.out _) hgrow (by intro h; have := ownRowB O11.out _ h.symm; omega))
      have O12 := Lib.hid (ownN hown (show _ = rw_ (unrF s n xs held) (j + 1) from by rw [← HU.out]; exact rw_more _ j))
      have B12 := (B11.alloc B11.size _).grown hgrow (by have := B11.size; simp <;> omega) (fun q hq => by have := ownRowB O11.out q hq; have := HP2.out; omega)
      clear hown hgrow P11 C11 D11 O11 B11
      go_wp2_with (first
        | (refine wpList_load_row rfl 24 (.tmp 3) rfl (w.heap.size) rfl 24 _ (0, 0) _ P12.out Try.underlying24 rfl (S.i24 _ _ _ _) ?_)
        | (refine wpList_load_row rfl 26 (.tmp 9) rfl (w2.heap.size) rfl 26 _ (0, 0) _ C12.out Try.underlying26 rfl (Cur.i26 _) ?_)
        | (go_at_call 64; (with_reducible refine (GC.out _).mono ?_); rintro e w13 ⟨rfl, hb13⟩; have P13 := Lib.hid (bkBelow P12.out hb13); have C13 := Lib.hid (bkBelow C12.out hb13); have B13 := bdT B12 B12.size hb13; clear P12 C12; have O13 := Lib.hid (ownV O12.out hb13))
        | (refine wpList_store_row rfl 26 (.tmp 9) (.tmp 39) rfl (w2.heap.size) (Cur.cs (walkC s n held (j + 1))) rfl rfl 26 _ C13.out (Cur.i26 _) (Cur.sz _ _) (Cur.one _) ?_))
      have hg := HP2.out
      exact ⟨⟨j + 1, by omega, by go_num, (setRow_other _ w2.heap.size w.heap.size _ (by omega)).trans P13.out, setRow_heap _ _ _ _ _ _ C13.out, ownVR (k := w2.heap.size) O13.out (by omega) _, below_setRow B13 (by omega) _⟩, by simp [intOf]; omega⟩
    · obtain rfl : j = N := by omega
      obtain ⟨A', c', g', rfl, hdat, _⟩ := ownDataV hO
      go_wp2
      go_ret2
      exact ⟨A', c', g', 0, rfl, hdat, B10⟩
theorem runroll_any (s : S) (A : Option Addr) (n c0 b o : Nat) (xs : Nat → Int) (N : Int) (held : Bool) (hn : n ≤ 9223372036854775807) (hc0 : n ≤ c0) (w : World) (hA : DataAt w A n b o xs) : Calls Try.prog 29 #[.agg (s.cs A n c0), iv N, .bool held] w fun e w' => ∃ A' c' b' o', e = .returned (.tuple #[.slice A' (unrN s n xs N) c', iv (unrE s n xs N)]) ∧ DataAt w' A' (unrN s n xs N) b' o' (unrF s n xs held) ∧ Below w.heap.size w w' := by
  cases hv : vS s n xs
  · rw [show unrN s n xs N = 0 from if_neg (by rw [hv]; simp), show unrE s n xs N = 1 from if_neg (by rw [hv]; simp)]
    exact (runroll_bad s A n c0 b o xs N held hv hn hc0 w hA).mono fun e w' ⟨A', c', b', o', h1, h2, h4⟩ => ⟨A', c', b', o', h1, data0 h2, h4⟩
  · by_cases h0 : N < 0
    · rw [show unrN s n xs N = 0 from if_neg (by omega), show unrE s n xs N = 5 from by unfold unrE; rw [if_pos hv, if_neg (by omega)]]
      exact (runroll_rnga s A n c0 b o xs N held hv h0 hn hc0 w hA).mono fun e w' ⟨A', c', b', o', h1, h2, h4⟩ => ⟨A', c', b', o', h1, data0 h2, h4⟩
    · by_cases h1 : 200000 < N
      · rw [show unrN s n xs N = 0 from if_neg (by omega), show unrE s n xs N = 5 from by unfold unrE; rw [if_pos hv, if_neg (by omega)]]
        exact (runroll_rngb s A n c0 b o xs N held hv (by omega) h1 hn hc0 w hA).mono fun e w' ⟨A', c', b', o', h1, h2, h4⟩ => ⟨A', c', b', o', h1, data0 h2, h4⟩
      · obtain ⟨M, rfl⟩ := Int.eq_ofNat_of_zero_le (show 0 ≤ N by omega)
        rw [show unrN s n xs M = M from if_pos ⟨hv, by omega, by omega⟩, show unrE s n xs M = 0 from by unfold unrE; rw [if_pos hv, if_pos (by omega)]]
        exact runroll_ok s A n c0 b o xs M held hv (by omega) hn hc0 w hA
end Go.Proofs.Ytnmoiolddfboiaa.SX

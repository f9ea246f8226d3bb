/- The value at a frame, and at a tap. -/
import Derived.Test.YtnmoiolddfboiaaSxC
namespace Go.Proofs.Ytnmoiolddfboiaa.SX
open Go.RowKit Go.Proofs.YtnmoiolddfboiaaW.PrintLast Go.Proofs.Ytnmoiolddfboiaa.TX Go.Proofs.Ytnmoiolddfboiaa.Cu
set_option linter.unusedVariables false
set_option linter.unusedSimpArgs false
/-- a frame as a number of 16 bits, or none -/
def hrd (s : S) (n : Nat) (xs : Nat → Int) (i : Int) : Int := if i < 0 ∨ (n : Int) ≤ i then 0 else if s.a2 = 8 then xs i.toNat * 256 else xs i.toNat
/-- frames of at most 16 bits -/
def Frames (s : S) (n : Nat) (xs : Nat → Int) : Prop := ∀ i, i < n → -32768 ≤ xs i ∧ xs i ≤ 32767
set_option maxHeartbeats 4000000 in
set_option maxRecDepth 100000 in
theorem frame_any (s : S) (A : Option Addr) (n c0 g b o : Nat) (xs : Nat → Int) (i : Int) (hx : Frames s n xs) (hn : n ≤ 4096) (w : World) (hP : w.heap[g]? = some (.cells (s.cs A n c0) 24 (0, 0))) (hA : DataAt w A n b o xs) : Calls Try.prog 110 #[.pointer (some ⟨g, 0, none⟩), iv i] w fun e w' => e = .returned (iv (hrd s n xs i)) ∧ w = w' := by
  have p1 := (bkCell hP 1).trans (show _ = some (.slice A n c0) from rfl)
  have p2 := (bkCell hP 2).trans (show _ = some (iv s.a2) from rfl)
  clear hP
  by_cases h0 : i < 0
  · rw [show hrd s n xs i = 0 from if_pos (.inl h0)]
    go_enter Try.func110, Try.ntmps110
    go_wp2
    go_ret
    exact ⟨rfl, rfl⟩
  · have d0 : decide (i < 0) = false := decide_eq_false h0
    by_cases h1 : (n : Int) ≤ i
    · rw [show hrd s n xs i = 0 from if_pos (.inr h1)]
      go_enter Try.func110, Try.ntmps110
      go_wp2
      go_ret
      exact ⟨rfl, rfl⟩
    · have d1 : decide ((n : Int) ≤ i) = false := decide_eq_false h1
      obtain ⟨j, rfl⟩ := Int.eq_ofNat_of_zero_le (show 0 ≤ i by omega)
      have hj : j < n := by omega
      have q0 : (0 : Int) ≤ (j : Int) := by omega
      have q1 : (j : Int) < (n : Int) := by omega
      have d2 : decide (n ≤ j) = false := decide_eq_false (by omega)
      have tA := hA.top (by omega)
      subst tA
      have hc := hA.cell j hj
      have hx0 := hx j hj
      have x0 := hx0.1
      have x1 := hx0.2
      clear hA hx hx0
      by_cases h8 : s.a2 = 8
      · rw [show hrd s n xs j = xs j * 256 from by unfold hrd; rw [if_neg (by omega), if_pos h8]; rfl]
        have e8 : (s.a2 == 8) = true := by simp [h8]
        clear h8
        generalize xs j = v at *
        go_enter Try.func110, Try.ntmps110
        go_wp2
        go_ret
        exact ⟨rfl, rfl⟩
      · rw [show hrd s n xs j = xs j from by unfold hrd; rw [if_neg (by omega), if_neg h8]; rfl]
        have e8 : (s.a2 == 8) = false := by simp [h8]
        clear h8
        generalize xs j = v at *
        go_enter Try.func110, Try.ntmps110
        go_wp2
        go_ret
        exact ⟨rfl, rfl⟩
def tapR (s : S) (n : Nat) (xs : Nat → Int) (d : Cur) : Int := if d.done = true then 0 else hrd s n xs d.pos
/-- the value k frames further along the cursor's way -/
def tapM (s : S) (n : Nat) (xs : Nat → Int) (c : Cur) (k : Int) (held : Bool) : Int :=
  if c.done = true then 0 else if k ≤ 0 then hrd s n xs (if c.back = true then c.pos - k else c.pos + k) else tapR s n xs (moveM s n ⟨c.pos, 0, c.back, c.done⟩ (k * 65536) held)
set_option maxHeartbeats 4000000 in
set_option maxRecDepth 100000 in
theorem tap_done (s : S) (A : Option Addr) (n c0 g b o : Nat) (xs : Nat → Int) (ps fr : Int) (bk : Bool) (k : Int) (held : Bool) (w : World) : Calls Try.prog 66 #[.pointer (some ⟨g, 0, none⟩), .agg (Cur.cs ⟨ps, fr, bk, true⟩), iv k, .bool held] w fun e w' => e = .returned (iv 0) ∧ Below w.heap.size w w' := by
  unfold Cur.cs
  go_enter Try.func66, Try.ntmps66
  go_wp2
  go_ret
  exact ⟨rfl, (Below.refl _ _).alloc (Nat.le_refl _) _⟩
set_option maxHeartbeats 4000000 in
set_option maxRecDepth 100000 in
theorem tap_low (s : S) (A : Option Addr) (n c0 g b o : Nat) (xs : Nat → Int) (ps fr : Int) (bk : Bool) (k : Int) (held : Bool) (hx : Frames s n xs) (hn : n ≤ 4096) (hp : 0 ≤ ps ∧ ps < n) (hk : -1000 ≤ k) (hk0 : k ≤ 0) (w : World) (hP : w.heap[g]? = some (.cells (s.cs A n c0) 24 (0, 0))) (hA : DataAt w A n b o xs) : Calls Try.prog 66 #[.pointer (some ⟨g, 0, none⟩), .agg (Cur.cs ⟨ps, fr, bk, false⟩), iv k, .bool held] w fun e w' => e = .returned (iv (hrd s n xs (if bk = true then ps - k else ps + k))) ∧ Below w.heap.size w w' := by
  have P0 := Lib.hid (show (w.alloc (Obj.cells #[iv ps, iv fr, .bool bk, .bool false] 26)).heap[g]? = some (.cells (s.cs A n c0) 24 (0, 0)) from bkAlloc hP (Obj.cells (Cur.cs ⟨ps, fr, bk, false⟩) 26))
  have D0 := Lib.hid (show DataAt (w.alloc (Obj.cells #[iv ps, iv fr, .bool bk, .bool false] 26)) A n b o xs from hA.later ((Below.refl _ _).alloc (Nat.le_refl _) _))
  have FC := Lib.hid fun (i : Int) (W : World) (h1 : W.heap[g]? = some (.cells (s.cs A n c0) 24 (0, 0))) (h2 : DataAt W A n b o xs) => frame_any s A n c0 g b o xs i hx hn W h1 h2
  have p0 := hp.1
  have p1 : ps ≤ 5000 := by omega
  clear hP hA hx hp
  unfold Cur.cs
  cases bk
  · rw [if_neg (show ¬ (false = true) by decide)]
    have w1 : wrap64 (ps + k) = ps + k := wrap_in (by omega) (by omega)
    go_enter Try.func66, Try.ntmps66
    go_wp2_with (go_at_call 110; (with_reducible refine (FC.out _ _ P0.out D0.out).mono ?_); rintro e w1 ⟨rfl, rfl⟩)
    go_ret
    exact ⟨rfl, (Below.refl _ _).alloc (Nat.le_refl _) _⟩
  · rw [if_pos rfl, show ps - k = ps + -k by omega]
    have w1 : wrap64 (ps + -k) = ps + -k := wrap_in (by omega) (by omega)
    go_enter Try.func66, Try.ntmps66
    go_wp2_with (go_at_call 110; (with_reducible refine (FC.out _ _ P0.out D0.out).mono ?_); rintro e w1 ⟨rfl, rfl⟩)
    go_ret
    exact ⟨rfl, (Below.refl _ _).alloc (Nat.le_refl _) _⟩
set_option maxHeartbeats 4000000 in
set_option maxRecDepth 100000 in
theorem tap_high (s : S) (A : Option Addr) (n c0 g b o : Nat) (xs : Nat → Int) (ps fr : Int) (bk : Bool) (k : Int) (held : Bool) (hL : Loops s n) (hx : Frames s n xs) (hp : 0 ≤ ps ∧ ps < n) (hk : 0 < k) (hk8 : k ≤ 8) (d : Cur) (hd : d = moveM s n ⟨ps, 0, bk, false⟩ (k * 65536) held) (w : World) (hP : w.heap[g]? = some (.cells (s.cs A n c0) 24 (0, 0))) (hA : DataAt w A n b o xs) : Calls Try.prog 66 #[.pointer (some ⟨g, 0, none⟩), .agg (Cur.cs ⟨ps, fr, bk, false⟩), iv k, .bool held] w fun e w' => e = .returned (iv (tapR s n xs d)) ∧ Below w.heap.size w w' := by
  have P0 := Lib.hid (show (w.alloc (Obj.cells #[iv ps, iv 0, .bool bk, .bool false] 26)).heap[g]? = some (.cells (s.cs A n c0) 24 (0, 0)) from bkAlloc hP (Obj.cells (Cur.cs ⟨ps, 0, bk, false⟩) 26))
  have B0 : Below w.heap.size w (w.alloc (Obj.cells #[iv ps, iv 0, .bool bk, .bool false] 26)) := (Below.refl _ _).alloc (Nat.le_refl _) _
  have D0 := Lib.hid (show DataAt (w.alloc (Obj.cells #[iv ps, iv 0, .bool bk, .bool false] 26)) A n b o xs from hA.later B0)
  have H0 := Lib.hid (show (w.alloc (Obj.cells #[iv ps, iv 0, .bool bk, .bool false] 26)).heap[w.heap.size]? = some (.cells (Cur.cs ⟨ps, 0, bk, false⟩) 26 (0, 0)) from heap_alloc_new w _)
  have FC := Lib.hid fun (i : Int) (W : World) (h1 : W.heap[g]? = some (.cells (s.cs A n c0) 24 (0, 0))) (h2 : DataAt W A n b o xs) => frame_any s A n c0 g b o xs i hx hL.1 W h1 h2
  have MC := Lib.hid (show ∀ (W : World), W.heap[g]? = some (.cells (s.cs A n c0) 24 (0, 0)) → Calls Try.prog 62 #[.pointer (some ⟨g, 0, none⟩), .agg #[iv ps, iv 0, .bool bk, .bool false], iv (k * 65536), .bool held] W fun e w' => e = .returned (.agg (Cur.cs d)) ∧ Below W.heap.size W w' from fun W h1 => by
    rw [hd]
    exact move_any s A n c0 g ⟨ps, 0, bk, false⟩ (k * 65536) held hL (by unfold CurOk; rw [if_neg (show ¬ (false = true) by decide)]; simp only; omega) (by omega) (by omega) W h1)
  have hgl := bkLt hP
  have DL := Lib.hid hA.low
  clear hP hA hx hp hd hL
  have d0 : decide (k ≤ 0) = false := decide_eq_false (by omega)
  have w1 : wrap64 (k * 65536) = k * 65536 := wrap_in (by omega) (by omega)
  unfold Cur.cs
  go_enter Try.func66, Try.ntmps66
  go_upto_region 9 with (first
    | (go_at_call 62; (with_reducible refine (MC.out _ P0.out).mono ?_); rintro e w2 ⟨rfl, hb2⟩; have H2 := Lib.hid (bkBelow H0.out hb2); have P2 := Lib.hid (bkBelow P0.out hb2); have D2 := Lib.hid (D0.out.later hb2); have B2 := bdT B0 B0.size hb2)
    | (refine wpList_store_row rfl 26 (.tmp 5) (.tmp 29) rfl (w.heap.size) (Cur.cs d) rfl rfl 26 _ H2.out (Cur.i26 _) (Cur.sz _ _) (Cur.one _) ?_))
  have H3 := setRow_heap _ _ _ (Cur.cs d) _ _ H2.out
  have c3 := (bkCell H3 3).trans (show _ = some (.bool d.done) from rfl)
  have c0' := (bkCell H3 0).trans (show _ = some (iv d.pos) from rfl)
  have P3 := Lib.hid (show (w2.setRow w.heap.size (Cur.cs d)).heap[g]? = _ from (setRow_other w2 w.heap.size g (Cur.cs d) (by omega)).trans P2.out)
  have D3 := Lib.hid (D2.out.setRow (k := w.heap.size) (fun hp => by have := DL.out hp; omega) (Cur.cs d))
  have B3 := below_setRow B2 (Nat.le_refl _) (Cur.cs d)
  clear H3 B2 B0 hb2
  cases hdn : d.done
  · rw [hdn] at c3
    have HX := Lib.hid hdn
    clear hdn
    go_wp2_with (go_at_call 110; (with_reducible refine (FC.out _ _ P3.out D3.out).mono ?_); rintro e w4 ⟨rfl, rfl⟩)
    go_ret
    exact ⟨by unfold tapR; rw [HX.out]; rfl, B3⟩
  · rw [hdn] at c3
    have HX := Lib.hid hdn
    clear hdn
    go_wp2
    go_ret
    exact ⟨by unfold tapR; rw [HX.out]; rfl, B3⟩
theorem tap_any (s : S) (A : Option Addr) (n c0 g b o : Nat) (xs : Nat → Int) (c : Cur) (k : Int) (held : Bool) (hL : Loops s n) (hx : Frames s n xs) (hc : CurOk n c) (hk : -1000 ≤ k) (hk8 : k ≤ 8) (w : World) (hP : w.heap[g]? = some (.cells (s.cs A n c0) 24 (0, 0))) (hA : DataAt w A n b o xs) : Calls Try.prog 66 #[.pointer (some ⟨g, 0, none⟩), .agg (Cur.cs c), iv k, .bool held] w fun e w' => e = .returned (iv (tapM s n xs c k held)) ∧ Below w.heap.size w w' := by
  obtain ⟨ps, fr, bk, dn⟩ := c
  cases dn
  · unfold CurOk at hc
    rw [if_neg (show ¬ (false = true) by decide)] at hc
    simp only at hc
    have e1 : tapM s n xs ⟨ps, fr, bk, false⟩ k held = if k ≤ 0 then hrd s n xs (if bk = true then ps - k else ps + k) else tapR s n xs (moveM s n ⟨ps, 0, bk, false⟩ (k * 65536) held) := by
      unfold tapM
      rw [if_neg (show ¬ (false = true) by decide)]
    rw [e1]
    by_cases h0 : k ≤ 0
    · rw [if_pos h0]
      exact tap_low s A n c0 g b o xs ps fr bk k held hx hL.1 ⟨hc.1, hc.2.1⟩ hk h0 w hP hA
    · rw [if_neg h0]
      exact tap_high s A n c0 g b o xs ps fr bk k held hL hx ⟨hc.1, hc.2.1⟩ (by omega) hk8 _ rfl w hP hA
  · exact tap_done s A n c0 g b o xs ps fr bk k held w
end Go.Proofs.Ytnmoiolddfboiaa.SX

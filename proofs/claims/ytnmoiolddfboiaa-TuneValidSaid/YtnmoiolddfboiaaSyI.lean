/- The value at a cursor as package interp tells it. -/
import Derived.Test.YtnmoiolddfboiaaSyH
namespace Go.Proofs.Ytnmoiolddfboiaa.SX
open Go.RowKit Go.Proofs.YtnmoiolddfboiaaW.PrintLast Go.Proofs.Ytnmoiolddfboiaa.TX Go.Proofs.Ytnmoiolddfboiaa.Cu
set_option linter.unusedVariables false
set_option linter.unusedSimpArgs false
set_option maxHeartbeats 4000000 in
set_option maxRecDepth 100000 in
theorem icursor_any (n : Nat) (c : Cur) (w : World) : Calls Try.prog 83 #[.agg (Cur.cs c), iv n] w fun e w' => e = .returned (.bool (okB n c)) ∧ Below w.heap.size w w' := by
  obtain ⟨ps, fr, bk, dn⟩ := c
  obtain ⟨r, hr⟩ : ∃ r, okB n ⟨ps, fr, bk, dn⟩ = r := ⟨_, rfl⟩
  rw [hr]
  unfold okB at hr
  simp only at hr
  cases dn
  · rw [if_neg (show ¬ (false = true) by decide)] at hr
    by_cases c1 : 0 ≤ ps
    · have d1 : decide (0 ≤ ps) = true := decide_eq_true c1
      by_cases c2 : ps < n
      · have d2 : decide (ps < (n : Int)) = true := decide_eq_true c2
        by_cases c3 : 0 ≤ fr
        · have d3 : decide (0 ≤ fr) = true := decide_eq_true c3
          by_cases c4 : fr < 65536
          · have d4 : decide (fr < 65536) = true := decide_eq_true c4
            obtain rfl : true = r := (decide_eq_true (by omega)).symm.trans hr
            (clear hr; unfold Cur.cs; go_enter Try.func83, Try.ntmps83; go_wp2; go_ret; exact ⟨rfl, (Below.refl _ _).alloc (Nat.le_refl _) _⟩)
          · have d4 : decide (fr < 65536) = false := decide_eq_false c4
            obtain rfl : false = r := (decide_eq_false (by omega)).symm.trans hr
            (clear hr; unfold Cur.cs; go_enter Try.func83, Try.ntmps83; go_wp2; go_ret; exact ⟨rfl, (Below.refl _ _).alloc (Nat.le_refl _) _⟩)
        · have d3 : decide (0 ≤ fr) = false := decide_eq_false c3
          obtain rfl : false = r := (decide_eq_false (by omega)).symm.trans hr
          (clear hr; unfold Cur.cs; go_enter Try.func83, Try.ntmps83; go_wp2; go_ret; exact ⟨rfl, (Below.refl _ _).alloc (Nat.le_refl _) _⟩)
      · have d2 : decide (ps < (n : Int)) = false := decide_eq_false c2
        obtain rfl : false = r := (decide_eq_false (by omega)).symm.trans hr
        (clear hr; unfold Cur.cs; go_enter Try.func83, Try.ntmps83; go_wp2; go_ret; exact ⟨rfl, (Below.refl _ _).alloc (Nat.le_refl _) _⟩)
    · have d1 : decide (0 ≤ ps) = false := decide_eq_false c1
      obtain rfl : false = r := (decide_eq_false (by omega)).symm.trans hr
      (clear hr; unfold Cur.cs; go_enter Try.func83, Try.ntmps83; go_wp2; go_ret; exact ⟨rfl, (Below.refl _ _).alloc (Nat.le_refl _) _⟩)
  · rw [if_pos rfl] at hr
    by_cases c1 : ps = 0
    · by_cases c2 : fr = 0
      · cases bk
        · obtain rfl : true = r := (decide_eq_true (by simp [c1, c2])).symm.trans hr
          subst c1 c2
          (clear hr; unfold Cur.cs; go_enter Try.func83, Try.ntmps83; go_wp2; go_ret; exact ⟨rfl, (Below.refl _ _).alloc (Nat.le_refl _) _⟩)
        · obtain rfl : false = r := (decide_eq_false (by simp)).symm.trans hr
          subst c1 c2
          (clear hr; unfold Cur.cs; go_enter Try.func83, Try.ntmps83; go_wp2; go_ret; exact ⟨rfl, (Below.refl _ _).alloc (Nat.le_refl _) _⟩)
      · obtain rfl : false = r := (decide_eq_false (by omega)).symm.trans hr
        have e2 : (fr == 0) = false := by simp [c2]
        (clear hr; unfold Cur.cs; go_enter Try.func83, Try.ntmps83; go_wp2; go_ret; exact ⟨rfl, (Below.refl _ _).alloc (Nat.le_refl _) _⟩)
    · obtain rfl : false = r := (decide_eq_false (by omega)).symm.trans hr
      have e1 : (ps == 0) = false := by simp [c1]
      (clear hr; unfold Cur.cs; go_enter Try.func83, Try.ntmps83; go_wp2; go_ret; exact ⟨rfl, (Below.refl _ _).alloc (Nat.le_refl _) _⟩)
theorem hrd_bd {s : S} {n : Nat} {xs : Nat → Int} (hT : Tame s n xs) (i : Int) : -32768 ≤ hrd s n xs i ∧ hrd s n xs i ≤ 32767 := by
  unfold hrd
  by_cases h : i < 0 ∨ (n : Int) ≤ i
  · rw [if_pos h]; omega
  · rw [if_neg h]
    have := hT i.toNat (by omega)
    by_cases e : s.a2 = 8
    · rw [if_pos e] at this ⊢; omega
    · rw [if_neg e] at this ⊢; omega
theorem tap_bd {s : S} {n : Nat} {xs : Nat → Int} (hT : Tame s n xs) (c : Cur) (k : Int) (held : Bool) : -32768 ≤ tapM s n xs c k held ∧ tapM s n xs c k held ≤ 32767 := by
  unfold tapM tapR
  split
  · omega
  · split
    · exact hrd_bd hT _
    · split
      · omega
      · exact hrd_bd hT _
def v8 (K : Nat) (f : Int) (F : Nat → Int) : Int := val8 K f (F 0) (F 1) (F 2) (F 3) (F 4) (F 5) (F 6) (F 7)
def tapsF (s : S) (n : Nat) (xs : Nat → Int) (c : Cur) (held : Bool) (K : Nat) : Nat → Int := tpF (wt K (c.frac / 256)) (fun k => tapM s n xs c ((k : Int) - 3) held)
/-- the value at a cursor -/
def sndM (s : S) (n : Nat) (xs : Nat → Int) (c : Cur) (held : Bool) (K : Nat) : Int := v8 K (c.frac / 256) (tapsF s n xs c held K)
theorem taps_bd {s : S} {n : Nat} {xs : Nat → Int} (hT : Tame s n xs) (c : Cur) (held : Bool) (K i : Nat) : -32768 ≤ tapsF s n xs c held K i ∧ tapsF s n xs c held K i ≤ 32767 := by
  unfold tapsF tpF
  split
  · omega
  · exact tap_bd hT _ _ _
theorem value_any (K : Nat) (hK : K ≤ 4) (f : Int) (d0 : 0 ≤ f) (d1 : f ≤ 255) (F : Nat → Int) (hF : ∀ i, -32768 ≤ F i ∧ F i ≤ 32767) (b : Nat) (w : World) (hX : w.heap[b]? = some (.cells (c8 F) 107 (0, 0))) :
    Calls Try.prog 117 #[curveV K, .pointer (some ⟨b, 0, none⟩), iv f] w fun e w' => e = .returned (iv (v8 K f F)) ∧ Below w.heap.size w w' := by
  rcases (by omega : K = 0 ∨ K = 1 ∨ K = 2 ∨ K = 3 ∨ K = 4) with rfl | rfl | rfl | rfl | rfl
  · exact value_0 f (F 0) (F 1) (F 2) (F 3) (F 4) (F 5) (F 6) (F 7) d0 d1 b w (hF 0).1 (hF 0).2 (hF 1).1 (hF 1).2 (hF 2).1 (hF 2).2 (hF 3).1 (hF 3).2 (hF 4).1 (hF 4).2 (hF 5).1 (hF 5).2 (hF 6).1 (hF 6).2 (hF 7).1 (hF 7).2 hX
  · exact value_1 f (F 0) (F 1) (F 2) (F 3) (F 4) (F 5) (F 6) (F 7) d0 d1 b w (hF 0).1 (hF 0).2 (hF 1).1 (hF 1).2 (hF 2).1 (hF 2).2 (hF 3).1 (hF 3).2 (hF 4).1 (hF 4).2 (hF 5).1 (hF 5).2 (hF 6).1 (hF 6).2 (hF 7).1 (hF 7).2 hX
  · exact value_2 f (F 0) (F 1) (F 2) (F 3) (F 4) (F 5) (F 6) (F 7) d0 d1 b w (hF 0).1 (hF 0).2 (hF 1).1 (hF 1).2 (hF 2).1 (hF 2).2 (hF 3).1 (hF 3).2 (hF 4).1 (hF 4).2 (hF 5).1 (hF 5).2 (hF 6).1 (hF 6).2 (hF 7).1 (hF 7).2 hX
  · exact value_3 f (F 0) (F 1) (F 2) (F 3) (F 4) (F 5) (F 6) (F 7) d0 d1 b w (hF 0).1 (hF 0).2 (hF 1).1 (hF 1).2 (hF 2).1 (hF 2).2 (hF 3).1 (hF 3).2 (hF 4).1 (hF 4).2 (hF 5).1 (hF 5).2 (hF 6).1 (hF 6).2 (hF 7).1 (hF 7).2 hX
  · exact value_4 f (F 0) (F 1) (F 2) (F 3) (F 4) (F 5) (F 6) (F 7) d0 d1 b w (hF 0).1 (hF 0).2 (hF 1).1 (hF 1).2 (hF 2).1 (hF 2).2 (hF 3).1 (hF 3).2 (hF 4).1 (hF 4).2 (hF 5).1 (hF 5).2 (hF 6).1 (hF 6).2 (hF 7).1 (hF 7).2 hX
theorem kat_any (K : Nat) (hK : K ≤ 4) (s : S) (A : Option Addr) (n c0 g b o : Nat) (xs : Nat → Int) (c : Cur) (held : Bool) (hd : c.done = false) (hL : Loops s n) (hx : Frames s n xs) (ht : Tame s n xs) (hc : CurOk n c) (w : World) (hP : w.heap[g]? = some (.cells (s.cs A n c0) 24 (0, 0))) (hA : DataAt w A n b o xs) :
    Calls Try.prog 85 #[curveV K, .pointer (some ⟨g, 0, none⟩), .agg (Cur.cs c), .bool held] w fun e w' => e = .returned (iv (sndM s n xs c held K)) ∧ Below w.heap.size w w' := by
  have hq : 0 ≤ c.frac ∧ c.frac ≤ 65535 := by
    unfold CurOk at hc
    rw [if_neg (by rw [hd]; decide)] at hc
    omega
  have e1 : c.frac.tdiv 256 = c.frac / 256 := Int.tdiv_eq_ediv_of_nonneg hq.1
  have d0 : 0 ≤ c.frac / 256 := by omega
  have d1 : c.frac / 256 ≤ 255 := by omega
  rcases (by omega : K = 0 ∨ K = 1 ∨ K = 2 ∨ K = 3 ∨ K = 4) with rfl | rfl | rfl | rfl | rfl
  · exact at_gen s A n c0 g b o xs 112 (enters_of Try.func112 (by kernel_rfl) rfl) (0) (c.frac / 256) (wt 0 (c.frac / 256)) (v8 0 (c.frac / 256)) c held (fun k => tapM s n xs c ((k : Int) - 3) held) (fun W => none_any _ W) (fun W b h => value_any 0 (by omega) _ d0 d1 _ (taps_bd ht c held 0) b W h) (fun k _ => rfl) e1 ⟨d0, d1⟩ hd hL hx hc w hP hA
  · exact at_gen s A n c0 g b o xs 113 (enters_of Try.func113 (by kernel_rfl) rfl) (8) (c.frac / 256) (wt 1 (c.frac / 256)) (v8 1 (c.frac / 256)) c held (fun k => tapM s n xs c ((k : Int) - 3) held) (fun W => linear_any _ W d0 d1) (fun W b h => value_any 1 (by omega) _ d0 d1 _ (taps_bd ht c held 1) b W h) (fun k _ => rfl) e1 ⟨d0, d1⟩ hd hL hx hc w hP hA
  · exact at_gen s A n c0 g b o xs 114 (enters_of Try.func114 (by kernel_rfl) rfl) (25) (c.frac / 256) (wt 2 (c.frac / 256)) (v8 2 (c.frac / 256)) c held (fun k => tapM s n xs c ((k : Int) - 3) held) (fun W => cubic_any _ W d0 d1) (fun W b h => value_any 2 (by omega) _ d0 d1 _ (taps_bd ht c held 2) b W h) (fun k _ => rfl) e1 ⟨d0, d1⟩ hd hL hx hc w hP hA
  · exact at_gen s A n c0 g b o xs 115 (enters_of Try.func115 (by kernel_rfl) rfl) (17) (c.frac / 256) (wt 3 (c.frac / 256)) (v8 3 (c.frac / 256)) c held (fun k => tapM s n xs c ((k : Int) - 3) held) (fun W => quadratic_any _ W d0 d1) (fun W b h => value_any 3 (by omega) _ d0 d1 _ (taps_bd ht c held 3) b W h) (fun k _ => rfl) e1 ⟨d0, d1⟩ hd hL hx hc w hP hA
  · exact at_gen s A n c0 g b o xs 116 (enters_of Try.func116 (by kernel_rfl) rfl) (-1) (c.frac / 256) (wt 4 (c.frac / 256)) (v8 4 (c.frac / 256)) c held (fun k => tapM s n xs c ((k : Int) - 3) held) (fun W => wide_any _ W d0 d1) (fun W b h => value_any 4 (by omega) _ d0 d1 _ (taps_bd ht c held 4) b W h) (fun k _ => rfl) e1 ⟨d0, d1⟩ hd hL hx hc w hP hA
set_option maxHeartbeats 4000000 in
set_option maxRecDepth 100000 in
theorem kat_done (K : Nat) (hK : K ≤ 4) (g : Nat) (c : Cur) (held : Bool) (hd : c.done = true) (w : World) :
    Calls Try.prog 85 #[curveV K, .pointer (some ⟨g, 0, none⟩), .agg (Cur.cs c), .bool held] w fun e w' => e = .returned (iv 0) ∧ Below w.heap.size w w' := by
  have y3 : (Cur.cs c)[3]? = some (.bool c.done) := rfl
  rw [hd] at y3
  clear hd
  rcases (by omega : K = 0 ∨ K = 1 ∨ K = 2 ∨ K = 3 ∨ K = 4) with rfl | rfl | rfl | rfl | rfl <;> (unfold curveV; clear hK; go_enter Try.func85, Try.ntmps85; go_wp2; go_ret; exact ⟨rfl, ((Below.refl _ _).alloc (Nat.le_refl _) _).alloc (by simp) _⟩)
set_option maxRecDepth 100000 in
theorem curves_at (k : Nat) (hk : k ≤ 4) : ∀ w, (Instr.index 91 curvesV (.int .i64 k)).run Try.prog w = .ok (curveV k) w := by
  rcases (by omega : k = 0 ∨ k = 1 ∨ k = 2 ∨ k = 3 ∨ k = 4) with rfl | rfl | rfl | rfl | rfl
  all_goals exact fun _ => by kernel_rfl
/-- what both packages answer -/
def atA (s : S) (n : Nat) (xs : Nat → Int) (c : Cur) (kind : Int) (held : Bool) : Int := if 0 ≤ kind ∧ kind ≤ 4 ∧ vS s n xs = true ∧ okB n c = true ∧ c.done = false then sndM s n xs c held kind.toNat else 0
set_option maxHeartbeats 16000000 in
set_option maxRecDepth 100000 in
theorem iat_kinda (s : S) (A : Option Addr) (n c0 b o : Nat) (xs : Nat → Int) (c : Cur) (kind : Int) (held : Bool) (h : kind < 0) (hn : n ≤ 9223372036854775807) (hc0 : n ≤ c0) (w : World) (hA : DataAt w A n b o xs) : Calls Try.prog 41 #[.agg (s.cs A n c0), .agg (Cur.cs c), iv kind, .bool held] w fun e w' => e = .returned (iv 0) ∧ Below w.heap.size w w' := by
  have B0 : Below w.heap.size w ((w.alloc (Obj.cells (s.cs A n c0) 24)).alloc (Obj.cells (Cur.cs c) 26)) := ((Below.refl _ _).alloc (Nat.le_refl _) _).alloc (by simp) _
  have P0 := Lib.hid (heap_alloc2_old w (Obj.cells (s.cs A n c0) 24) (Obj.cells (Cur.cs c) 26))
  have C0 := Lib.hid (heap_alloc2_new w (Obj.cells (s.cs A n c0) 24) (Obj.cells (Cur.cs c) 26))
  have D0 := Lib.hid (hA.later B0)
  have VC := Lib.hid fun (W : World) (h : DataAt W A n b o xs) => valid_any s A n c0 b o xs hn hc0 W h
  have d1 : decide (kind < 0) = true := decide_eq_true (by omega)
  clear hA
  go_enter Try.func41, Try.ntmps41
  go_wp2
  go_ret
  exact ⟨rfl, B0⟩
set_option maxHeartbeats 16000000 in
set_option maxRecDepth 100000 in
theorem iat_kindb (s : S) (A : Option Addr) (n c0 b o : Nat) (xs : Nat → Int) (c : Cur) (kind : Int) (held : Bool) (h : 4 < kind) (hn : n ≤ 9223372036854775807) (hc0 : n ≤ c0) (w : World) (hA : DataAt w A n b o xs) : Calls Try.prog 41 #[.agg (s.cs A n c0), .agg (Cur.cs c), iv kind, .bool held] w fun e w' => e = .returned (iv 0) ∧ Below w.heap.size w w' := by
  have B0 : Below w.heap.size w ((w.alloc (Obj.cells (s.cs A n c0) 24)).alloc (Obj.cells (Cur.cs c) 26)) := ((Below.refl _ _).alloc (Nat.le_refl _) _).alloc (by simp) _
  have P0 := Lib.hid (heap_alloc2_old w (Obj.cells (s.cs A n c0) 24) (Obj.cells (Cur.cs c) 26))
  have C0 := Lib.hid (heap_alloc2_new w (Obj.cells (s.cs A n c0) 24) (Obj.cells (Cur.cs c) 26))
  have D0 := Lib.hid (hA.later B0)
  have VC := Lib.hid fun (W : World) (h : DataAt W A n b o xs) => valid_any s A n c0 b o xs hn hc0 W h
  have d1 : decide (kind < 0) = false := decide_eq_false (by omega)
  have d2 : decide (4 < kind) = true := decide_eq_true (by omega)
  clear hA
  go_enter Try.func41, Try.ntmps41
  go_wp2
  go_ret
  exact ⟨rfl, B0⟩
set_option maxHeartbeats 16000000 in
set_option maxRecDepth 100000 in
theorem iat_bad (s : S) (A : Option Addr) (n c0 b o : Nat) (xs : Nat → Int) (c : Cur) (kind : Int) (held : Bool) (h : 0 ≤ kind) (h2 : kind ≤ 4) (hv : vS s n xs = false) (hn : n ≤ 9223372036854775807) (hc0 : n ≤ c0) (w : World) (hA : DataAt w A n b o xs) : Calls Try.prog 41 #[.agg (s.cs A n c0), .agg (Cur.cs c), iv kind, .bool held] w fun e w' => e = .returned (iv 0) ∧ Below w.heap.size w w' := by
  have B0 : Below w.heap.size w ((w.alloc (Obj.cells (s.cs A n c0) 24)).alloc (Obj.cells (Cur.cs c) 26)) := ((Below.refl _ _).alloc (Nat.le_refl _) _).alloc (by simp) _
  have P0 := Lib.hid (heap_alloc2_old w (Obj.cells (s.cs A n c0) 24) (Obj.cells (Cur.cs c) 26))
  have C0 := Lib.hid (heap_alloc2_new w (Obj.cells (s.cs A n c0) 24) (Obj.cells (Cur.cs c) 26))
  have D0 := Lib.hid (hA.later B0)
  have VC := Lib.hid fun (W : World) (h : DataAt W A n b o xs) => valid_any s A n c0 b o xs hn hc0 W h
  rw [hv] at VC
  have d1 : decide (kind < 0) = false := decide_eq_false (by omega)
  have d2 : decide (4 < kind) = false := decide_eq_false (by omega)
  clear hA hv
  go_enter Try.func41, Try.ntmps41
  go_wp2_with (first
    | (refine gdOn (by rfl) ?_; refine wpList_load_row rfl 24 (.tmp 4) rfl (w.heap.size) rfl 24 _ (0, 0) _ P0.out Try.underlying24 rfl (S.i24 _ _ _ _) ?_)
    | (go_at_call 15; (with_reducible refine (VC.out _ D0.out).mono ?_); rintro e w1 ⟨rfl, hb1⟩; have P1 := Lib.hid (bkBelow P0.out hb1); have C1 := Lib.hid (bkBelow C0.out hb1); have D1 := Lib.hid (D0.out.later hb1); have B1 := bdT B0 B0.size hb1; have p1 := (bkCell P1.out 1).trans (show _ = some (Value.slice A n c0) from rfl)))
  go_ret
  exact ⟨rfl, B1⟩
set_option maxHeartbeats 16000000 in
set_option maxRecDepth 100000 in
theorem iat_cur (s : S) (A : Option Addr) (n c0 b o : Nat) (xs : Nat → Int) (c : Cur) (kind : Int) (held : Bool) (h : 0 ≤ kind) (h2 : kind ≤ 4) (hv : vS s n xs = true) (hk : okB n c = false) (hn : n ≤ 9223372036854775807) (hc0 : n ≤ c0) (w : World) (hA : DataAt w A n b o xs) : Calls Try.prog 41 #[.agg (s.cs A n c0), .agg (Cur.cs c), iv kind, .bool held] w fun e w' => e = .returned (iv 0) ∧ Below w.heap.size w w' := by
  have B0 : Below w.heap.size w ((w.alloc (Obj.cells (s.cs A n c0) 24)).alloc (Obj.cells (Cur.cs c) 26)) := ((Below.refl _ _).alloc (Nat.le_refl _) _).alloc (by simp) _
  have P0 := Lib.hid (heap_alloc2_old w (Obj.cells (s.cs A n c0) 24) (Obj.cells (Cur.cs c) 26))
  have C0 := Lib.hid (heap_alloc2_new w (Obj.cells (s.cs A n c0) 24) (Obj.cells (Cur.cs c) 26))
  have D0 := Lib.hid (hA.later B0)
  have VC := Lib.hid fun (W : World) (h : DataAt W A n b o xs) => valid_any s A n c0 b o xs hn hc0 W h
  rw [hv] at VC
  have d1 : decide (kind < 0) = false := decide_eq_false (by omega)
  have d2 : decide (4 < kind) = false := decide_eq_false (by omega)
  have CC := Lib.hid fun (W : World) => (show Calls Try.prog 83 #[.agg (Cur.cs c), iv n] W fun e w' => e = .returned (.bool false) ∧ Below W.heap.size W w' from hk ▸ icursor_any n c W)
  clear hA hv hk
  go_enter Try.func41, Try.ntmps41
  go_wp2_with (first
    | (refine gdOn (by rfl) ?_; refine wpList_load_row rfl 24 (.tmp 4) rfl (w.heap.size) rfl 24 _ (0, 0) _ P0.out Try.underlying24 rfl (S.i24 _ _ _ _) ?_)
    | (go_at_call 15; (with_reducible refine (VC.out _ D0.out).mono ?_); rintro e w1 ⟨rfl, hb1⟩; have P1 := Lib.hid (bkBelow P0.out hb1); have C1 := Lib.hid (bkBelow C0.out hb1); have D1 := Lib.hid (D0.out.later hb1); have B1 := bdT B0 B0.size hb1; have p1 := (bkCell P1.out 1).trans (show _ = some (Value.slice A n c0) from rfl))
    | (refine gdOn (by rfl) ?_; refine wpList_load_row rfl 26 (.tmp 5) rfl (w.heap.size + 1) rfl 26 _ (0, 0) _ C1.out Try.underlying26 rfl (Cur.i26 _) ?_)
    | (go_at_call 83; (with_reducible refine (CC.out _).mono ?_); rintro e w2 ⟨rfl, hb2⟩; have P2 := Lib.hid (bkBelow P1.out hb2); have C2 := Lib.hid (bkBelow C1.out hb2); have D2 := Lib.hid (D1.out.later hb2); have B2 := bdT B1 B1.size hb2))
  go_ret
  exact ⟨rfl, B2⟩
set_option maxHeartbeats 16000000 in
set_option maxRecDepth 100000 in
theorem iat_ok (s : S) (A : Option Addr) (n c0 b o : Nat) (xs : Nat → Int) (c : Cur) (kind : Nat) (held : Bool) (h2 : kind ≤ 4) (hv : vS s n xs = true) (hk : okB n c = true) (hd : c.done = false) (hn : n ≤ 9223372036854775807) (hc0 : n ≤ c0) (w : World) (hA : DataAt w A n b o xs) : Calls Try.prog 41 #[.agg (s.cs A n c0), .agg (Cur.cs c), iv kind, .bool held] w fun e w' => e = .returned (iv (sndM s n xs c held kind)) ∧ Below w.heap.size w w' := by
  have B0 : Below w.heap.size w ((w.alloc (Obj.cells (s.cs A n c0) 24)).alloc (Obj.cells (Cur.cs c) 26)) := ((Below.refl _ _).alloc (Nat.le_refl _) _).alloc (by simp) _
  have P0 := Lib.hid (heap_alloc2_old w (Obj.cells (s.cs A n c0) 24) (Obj.cells (Cur.cs c) 26))
  have C0 := Lib.hid (heap_alloc2_new w (Obj.cells (s.cs A n c0) 24) (Obj.cells (Cur.cs c) 26))
  have D0 := Lib.hid (hA.later B0)
  have VC := Lib.hid fun (W : World) (h : DataAt W A n b o xs) => valid_any s A n c0 b o xs hn hc0 W h
  rw [hv] at VC
  have d1 : decide ((kind : Int) < 0) = false := decide_eq_false (by omega)
  have d2 : decide (4 < (kind : Int)) = false := decide_eq_false (by omega)
  have n2 : decide (4 < kind) = false := decide_eq_false (by omega)
  have HD := Lib.hid hA
  have CC := Lib.hid fun (W : World) => (show Calls Try.prog 83 #[.agg (Cur.cs c), iv n] W fun e w' => e = .returned (.bool true) ∧ Below W.heap.size W w' from hk ▸ icursor_any n c W)
  have AQ := Lib.hid fun (W : World) (hP : W.heap[w.heap.size]? = some (.cells (s.cs A n c0) 24 (0, 0))) (hB : Below w.heap.size w W) => kat_any kind h2 s A n c0 w.heap.size b o xs c held hd (vS_loops hv) (vS_frames hv) (vS_tame hv) (okB_iff.1 hk) W hP (HD.out.later hB)
  have cva := curves_at kind h2
  clear hA hv hk hd
  go_enter Try.func41, Try.ntmps41
  go_upto_region 3 with (first
    | (refine gdOn (by rfl) ?_; refine wpList_load_row rfl 24 (.tmp 4) rfl (w.heap.size) rfl 24 _ (0, 0) _ P0.out Try.underlying24 rfl (S.i24 _ _ _ _) ?_)
    | (go_at_call 15; (with_reducible refine (VC.out _ D0.out).mono ?_); rintro e w1 ⟨rfl, hb1⟩; have P1 := Lib.hid (bkBelow P0.out hb1); have C1 := Lib.hid (bkBelow C0.out hb1); have D1 := Lib.hid (D0.out.later hb1); have B1 := bdT B0 B0.size hb1; have p1 := (bkCell P1.out 1).trans (show _ = some (Value.slice A n c0) from rfl))
    | (refine gdOn (by rfl) ?_; refine wpList_load_row rfl 26 (.tmp 5) rfl (w.heap.size + 1) rfl 26 _ (0, 0) _ C1.out Try.underlying26 rfl (Cur.i26 _) ?_)
    | (go_at_call 83; (with_reducible refine (CC.out _).mono ?_); rintro e w2 ⟨rfl, hb2⟩; have P2 := Lib.hid (bkBelow P1.out hb2); have C2 := Lib.hid (bkBelow C1.out hb2); have D2 := Lib.hid (D1.out.later hb2); have B2 := bdT B1 B1.size hb2))
  clear d1 d2 n2
  refine start_ (n := 7) (S := fun w' => w'.heap[w.heap.size]? = some (.cells (s.cs A n c0) 24 (0, 0)) ∧ w'.heap[w.heap.size + 1]? = some (.cells (Cur.cs c) 26 (0, 0)) ∧ Below w.heap.size w w') (ds := []) #[false, false, false, false, false, false, false] (by kernel_rfl) rfl rfl ⟨P2.out, C2.out, B2.drew⟩ (fun hHeld => ?_)
  refine pure_ (i := 1) (N := some 29) (v := ?_) (a' := ?_) #[false, true, false, false, false, false, false] rfl rfl (by kernel_rfl) (fun _ _ _ h => h) (Or.inl ⟨by rfl, ?_⟩) ?_ ?_
  rotate_left
  · intro w'
    go_simp
    with_reducible rfl
  rotate_left
  · simp only [Act.put, List.setIfInBounds_toArray, List.set_cons_zero, List.set_cons_succ, i64_w, i32_w, cva]
    rfl
  refine pure_ (i := 4) (N := some 32) (v := ?_) (a' := ?_) #[false, true, false, false, true, false, false] rfl rfl (by kernel_rfl) (fun _ _ _ h => h) (Or.inl ⟨by rfl, ?_⟩) ?_ ?_
  rotate_left
  · intro w'
    go_simp
    with_reducible rfl
  rotate_left
  · simp only [Act.put, List.setIfInBounds_toArray, List.set_cons_zero, List.set_cons_succ, i64_w, i32_w, cva]
    rfl
  refine take_ (i := 3) (N := some 31) (v := ?_) (a' := ?_) #[false, true, false, true, true, false, false] rfl rfl (by kernel_rfl) (fun _ _ _ h => h) (Or.inl ⟨by rfl, ?_⟩) hHeld ?_ ?_
  rotate_left
  · rintro w' ⟨s0, s1, s2⟩
    refine exec_load_row 26 (.tmp 5) ?_ (w.heap.size + 1) ?_ 26 _ _ _ s1 Try.underlying26 rfl (Cur.i26 _) <;> rfl
  rotate_left
  · simp only [Act.put, List.setIfInBounds_toArray, List.set_cons_zero, List.set_cons_succ, i64_w, i32_w, cva]
    rfl
  refine one_ (i := 0) (N := some 28) #[true, true, false, true, true, false, false] rfl rfl (by kernel_rfl) (by decide) (fun K hK => ?_)
  obtain ⟨s0, s1, s2⟩ := hHeld
  refine goes_ Try.func84 (by kernel_rfl) rfl #[] (by rfl) rfl rfl (by first | rfl | simp) ?_
  with_reducible refine (curves_any _).mono ?_
  rintro e wx0 ⟨rfl, hb⟩
  refine ⟨_, rfl, ?_⟩
  have Y0_0 := Lib.hid (bkBelow s0 hb)
  have Y0_1 := Lib.hid (bkBelow s1 hb)
  have Y0_2 := bdT s2 s2.size hb
  clear hb s0 s1 s2
  refine hK.out _ _ ⟨Y0_0.out, Y0_1.out, Y0_2⟩ (fun hHeld => ?_)
  clear hK K
  refine norm_ (a' := ?_) ?_ ?_
  rotate_left
  · show Act.put _ (some 28) _ = _
    simp only [Act.put, List.setIfInBounds_toArray, List.set_cons_zero, List.set_cons_succ, i64_w, i32_w, cva]
    rfl
  refine take_ (i := 2) (N := some 30) (v := ?_) (a' := ?_) #[true, true, true, true, true, false, false] rfl rfl (by kernel_rfl) (fun _ _ _ h => h) (Or.inl ⟨by rfl, ?_⟩) hHeld ?_ ?_
  rotate_left
  · rintro w' ⟨s0, s1, s2⟩
    go_simp
    with_reducible rfl
  rotate_left
  · simp only [Act.put, List.setIfInBounds_toArray, List.set_cons_zero, List.set_cons_succ, i64_w, i32_w, cva]
    rfl
  refine one_ (i := 5) (N := some 33) #[true, true, true, true, true, true, false] rfl rfl (by kernel_rfl) (by decide) (fun K hK => ?_)
  obtain ⟨s0, s1, s2⟩ := hHeld
  refine goes_ Try.func85 (by kernel_rfl) rfl #[curveV kind, .pointer (some ⟨w.heap.size, 0, none⟩), .agg (Cur.cs c), .bool held] (by rfl) rfl rfl (by simp only [List.map_toArray, List.map_cons, List.map_nil]; rfl) ?_
  with_reducible refine (AQ.out _ s0 s2).mono ?_
  rintro e wx5 ⟨rfl, hb⟩
  refine ⟨_, rfl, ?_⟩
  have Y5_0 := Lib.hid (bkBelow s0 hb)
  have Y5_1 := Lib.hid (bkBelow s1 hb)
  have Y5_2 := bdT s2 s2.size hb
  clear hb s0 s1 s2
  refine hK.out _ _ ⟨Y5_0.out, Y5_1.out, Y5_2⟩ (fun hHeld => ?_)
  clear hK K
  refine norm_ (a' := ?_) ?_ ?_
  rotate_left
  · show Act.put _ (some 33) _ = _
    simp only [Act.put, List.setIfInBounds_toArray, List.set_cons_zero, List.set_cons_succ, i64_w, i32_w, cva]
    rfl
  refine pure_ (i := 6) (N := some 8) (v := ?_) (a' := ?_) #[true, true, true, true, true, true, true] rfl rfl (by kernel_rfl) (fun _ _ _ h => h) (Or.inl ⟨by rfl, ?_⟩) ?_ ?_
  rotate_left
  · intro w'
    go_simp
    with_reducible rfl
  rotate_left
  · simp only [Act.put, List.setIfInBounds_toArray, List.set_cons_zero, List.set_cons_succ, i64_w, i32_w, cva]
    rfl
  refine done_ (by kernel_rfl) ?_
  go_wp2
  go_ret
  exact ⟨rfl, Y5_2⟩
set_option maxHeartbeats 16000000 in
set_option maxRecDepth 100000 in
theorem iat_done (s : S) (A : Option Addr) (n c0 b o : Nat) (xs : Nat → Int) (c : Cur) (kind : Nat) (held : Bool) (h2 : kind ≤ 4) (hv : vS s n xs = true) (hk : okB n c = true) (hd : c.done = true) (hn : n ≤ 9223372036854775807) (hc0 : n ≤ c0) (w : World) (hA : DataAt w A n b o xs) : Calls Try.prog 41 #[.agg (s.cs A n c0), .agg (Cur.cs c), iv kind, .bool held] w fun e w' => e = .returned (iv 0) ∧ Below w.heap.size w w' := by
  have B0 : Below w.heap.size w ((w.alloc (Obj.cells (s.cs A n c0) 24)).alloc (Obj.cells (Cur.cs c) 26)) := ((Below.refl _ _).alloc (Nat.le_refl _) _).alloc (by simp) _
  have P0 := Lib.hid (heap_alloc2_old w (Obj.cells (s.cs A n c0) 24) (Obj.cells (Cur.cs c) 26))
  have C0 := Lib.hid (heap_alloc2_new w (Obj.cells (s.cs A n c0) 24) (Obj.cells (Cur.cs c) 26))
  have D0 := Lib.hid (hA.later B0)
  have VC := Lib.hid fun (W : World) (h : DataAt W A n b o xs) => valid_any s A n c0 b o xs hn hc0 W h
  rw [hv] at VC
  have d1 : decide ((kind : Int) < 0) = false := decide_eq_false (by omega)
  have d2 : decide (4 < (kind : Int)) = false := decide_eq_false (by omega)
  have n2 : decide (4 < kind) = false := decide_eq_false (by omega)
  have HD := Lib.hid hA
  have CC := Lib.hid fun (W : World) => (show Calls Try.prog 83 #[.agg (Cur.cs c), iv n] W fun e w' => e = .returned (.bool true) ∧ Below W.heap.size W w' from hk ▸ icursor_any n c W)
  have AQ := Lib.hid fun (W : World) (hP : W.heap[w.heap.size]? = some (.cells (s.cs A n c0) 24 (0, 0))) (hB : Below w.heap.size w W) => kat_done kind h2 w.heap.size c held hd W
  have cva := curves_at kind h2
  clear hA hv hk hd
  go_enter Try.func41, Try.ntmps41
  go_upto_region 3 with (first
    | (refine gdOn (by rfl) ?_; refine wpList_load_row rfl 24 (.tmp 4) rfl (w.heap.size) rfl 24 _ (0, 0) _ P0.out Try.underlying24 rfl (S.i24 _ _ _ _) ?_)
    | (go_at_call 15; (with_reducible refine (VC.out _ D0.out).mono ?_); rintro e w1 ⟨rfl, hb1⟩; have P1 := Lib.hid (bkBelow P0.out hb1); have C1 := Lib.hid (bkBelow C0.out hb1); have D1 := Lib.hid (D0.out.later hb1); have B1 := bdT B0 B0.size hb1; have p1 := (bkCell P1.out 1).trans (show _ = some (Value.slice A n c0) from rfl))
    | (refine gdOn (by rfl) ?_; refine wpList_load_row rfl 26 (.tmp 5) rfl (w.heap.size + 1) rfl 26 _ (0, 0) _ C1.out Try.underlying26 rfl (Cur.i26 _) ?_)
    | (go_at_call 83; (with_reducible refine (CC.out _).mono ?_); rintro e w2 ⟨rfl, hb2⟩; have P2 := Lib.hid (bkBelow P1.out hb2); have C2 := Lib.hid (bkBelow C1.out hb2); have D2 := Lib.hid (D1.out.later hb2); have B2 := bdT B1 B1.size hb2))
  clear d1 d2 n2
  refine start_ (n := 7) (S := fun w' => w'.heap[w.heap.size]? = some (.cells (s.cs A n c0) 24 (0, 0)) ∧ w'.heap[w.heap.size + 1]? = some (.cells (Cur.cs c) 26 (0, 0)) ∧ Below w.heap.size w w') (ds := []) #[false, false, false, false, false, false, false] (by kernel_rfl) rfl rfl ⟨P2.out, C2.out, B2.drew⟩ (fun hHeld => ?_)
  refine pure_ (i := 1) (N := some 29) (v := ?_) (a' := ?_) #[false, true, false, false, false, false, false] rfl rfl (by kernel_rfl) (fun _ _ _ h => h) (Or.inl ⟨by rfl, ?_⟩) ?_ ?_
  rotate_left
  · intro w'
    go_simp
    with_reducible rfl
  rotate_left
  · simp only [Act.put, List.setIfInBounds_toArray, List.set_cons_zero, List.set_cons_succ, i64_w, i32_w, cva]
    rfl
  refine pure_ (i := 4) (N := some 32) (v := ?_) (a' := ?_) #[false, true, false, false, true, false, false] rfl rfl (by kernel_rfl) (fun _ _ _ h => h) (Or.inl ⟨by rfl, ?_⟩) ?_ ?_
  rotate_left
  · intro w'
    go_simp
    with_reducible rfl
  rotate_left
  · simp only [Act.put, List.setIfInBounds_toArray, List.set_cons_zero, List.set_cons_succ, i64_w, i32_w, cva]
    rfl
  refine take_ (i := 3) (N := some 31) (v := ?_) (a' := ?_) #[false, true, false, true, true, false, false] rfl rfl (by kernel_rfl) (fun _ _ _ h => h) (Or.inl ⟨by rfl, ?_⟩) hHeld ?_ ?_
  rotate_left
  · rintro w' ⟨s0, s1, s2⟩
    refine exec_load_row 26 (.tmp 5) ?_ (w.heap.size + 1) ?_ 26 _ _ _ s1 Try.underlying26 rfl (Cur.i26 _) <;> rfl
  rotate_left
  · simp only [Act.put, List.setIfInBounds_toArray, List.set_cons_zero, List.set_cons_succ, i64_w, i32_w, cva]
    rfl
  refine one_ (i := 0) (N := some 28) #[true, true, false, true, true, false, false] rfl rfl (by kernel_rfl) (by decide) (fun K hK => ?_)
  obtain ⟨s0, s1, s2⟩ := hHeld
  refine goes_ Try.func84 (by kernel_rfl) rfl #[] (by rfl) rfl rfl (by first | rfl | simp) ?_
  with_reducible refine (curves_any _).mono ?_
  rintro e wx0 ⟨rfl, hb⟩
  refine ⟨_, rfl, ?_⟩
  have Y0_0 := Lib.hid (bkBelow s0 hb)
  have Y0_1 := Lib.hid (bkBelow s1 hb)
  have Y0_2 := bdT s2 s2.size hb
  clear hb s0 s1 s2
  refine hK.out _ _ ⟨Y0_0.out, Y0_1.out, Y0_2⟩ (fun hHeld => ?_)
  clear hK K
  refine norm_ (a' := ?_) ?_ ?_
  rotate_left
  · show Act.put _ (some 28) _ = _
    simp only [Act.put, List.setIfInBounds_toArray, List.set_cons_zero, List.set_cons_succ, i64_w, i32_w, cva]
    rfl
  refine take_ (i := 2) (N := some 30) (v := ?_) (a' := ?_) #[true, true, true, true, true, false, false] rfl rfl (by kernel_rfl) (fun _ _ _ h => h) (Or.inl ⟨by rfl, ?_⟩) hHeld ?_ ?_
  rotate_left
  · rintro w' ⟨s0, s1, s2⟩
    go_simp
    with_reducible rfl
  rotate_left
  · simp only [Act.put, List.setIfInBounds_toArray, List.set_cons_zero, List.set_cons_succ, i64_w, i32_w, cva]
    rfl
  refine one_ (i := 5) (N := some 33) #[true, true, true, true, true, true, false] rfl rfl (by kernel_rfl) (by decide) (fun K hK => ?_)
  obtain ⟨s0, s1, s2⟩ := hHeld
  refine goes_ Try.func85 (by kernel_rfl) rfl #[curveV kind, .pointer (some ⟨w.heap.size, 0, none⟩), .agg (Cur.cs c), .bool held] (by rfl) rfl rfl (by simp only [List.map_toArray, List.map_cons, List.map_nil]; rfl) ?_
  with_reducible refine (AQ.out _ s0 s2).mono ?_
  rintro e wx5 ⟨rfl, hb⟩
  refine ⟨_, rfl, ?_⟩
  have Y5_0 := Lib.hid (bkBelow s0 hb)
  have Y5_1 := Lib.hid (bkBelow s1 hb)
  have Y5_2 := bdT s2 s2.size hb
  clear hb s0 s1 s2
  refine hK.out _ _ ⟨Y5_0.out, Y5_1.out, Y5_2⟩ (fun hHeld => ?_)
  clear hK K
  refine norm_ (a' := ?_) ?_ ?_
  rotate_left
  · show Act.put _ (some 33) _ = _
    simp only [Act.put, List.setIfInBounds_toArray, List.set_cons_zero, List.set_cons_succ, i64_w, i32_w, cva]
    rfl
  refine pure_ (i := 6) (N := some 8) (v := ?_) (a' := ?_) #[true, true, true, true, true, true, true] rfl rfl (by kernel_rfl) (fun _ _ _ h => h) (Or.inl ⟨by rfl, ?_⟩) ?_ ?_
  rotate_left
  · intro w'
    go_simp
    with_reducible rfl
  rotate_left
  · simp only [Act.put, List.setIfInBounds_toArray, List.set_cons_zero, List.set_cons_succ, i64_w, i32_w, cva]
    rfl
  refine done_ (by kernel_rfl) ?_
  go_wp2
  go_ret
  exact ⟨rfl, Y5_2⟩
theorem iat_any (s : S) (A : Option Addr) (n c0 b o : Nat) (xs : Nat → Int) (c : Cur) (kind : Int) (held : Bool) (hn : n ≤ 9223372036854775807) (hc0 : n ≤ c0) (w : World) (hA : DataAt w A n b o xs) : Calls Try.prog 41 #[.agg (s.cs A n c0), .agg (Cur.cs c), iv kind, .bool held] w fun e w' => e = .returned (iv (atA s n xs c kind held)) ∧ Below w.heap.size w w' := by
  by_cases h0 : kind < 0
  · rw [show atA s n xs c kind held = 0 from if_neg (by omega)]
    exact iat_kinda s A n c0 b o xs c kind held h0 hn hc0 w hA
  by_cases h1 : 4 < kind
  · rw [show atA s n xs c kind held = 0 from if_neg (by omega)]
    exact iat_kindb s A n c0 b o xs c kind held h1 hn hc0 w hA
  cases hv : vS s n xs
  · rw [show atA s n xs c kind held = 0 from if_neg (by rw [hv]; simp)]
    exact iat_bad s A n c0 b o xs c kind held (by omega) (by omega) hv hn hc0 w hA
  cases hk : okB n c
  · rw [show atA s n xs c kind held = 0 from if_neg (by rw [hk]; simp)]
    exact iat_cur s A n c0 b o xs c kind held (by omega) (by omega) hv hk hn hc0 w hA
  obtain ⟨K, rfl⟩ := Int.eq_ofNat_of_zero_le (show 0 ≤ kind by omega)
  cases hd : c.done
  · rw [show atA s n xs c K held = sndM s n xs c held K from if_pos ⟨by omega, by omega, hv, hk, hd⟩]
    exact iat_ok s A n c0 b o xs c K held (by omega) hv hk hd hn hc0 w hA
  · rw [show atA s n xs c K held = 0 from if_neg (by rw [hd]; simp)]
    exact iat_done s A n c0 b o xs c K held (by omega) hv hk hd hn hc0 w hA
end Go.Proofs.Ytnmoiolddfboiaa.SX

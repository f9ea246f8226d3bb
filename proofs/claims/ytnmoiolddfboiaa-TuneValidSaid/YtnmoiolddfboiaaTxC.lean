/- Samples: tame, clipped, the same, copied. -/
import Derived.Test.YtnmoiolddfboiaaTxB
namespace Go.Proofs.Ytnmoiolddfboiaa.TX
open Go.RowKit Go.Proofs.YtnmoiolddfboiaaW.PrintLast
set_option linter.unusedVariables false
set_option linter.unusedSimpArgs false
set_option maxHeartbeats 4000000 in
set_option maxRecDepth 100000 in
theorem tame_any (s : S) (A : Option Addr) (n c : Nat) (w : World) : Calls Try.prog 46 #[.agg (s.cs A n c)] w fun e w' => e = .returned (.bool (decide (n ≤ 5000 ∧ s.nm.size ≤ 100))) ∧ Below w.heap.size w w' := by
  have c0 := (bkCell (heap_alloc_new w (Obj.cells (s.cs A n c) 24)) 0).trans (show _ = some (Value.string s.nm) from rfl)
  have c1 := (bkCell (heap_alloc_new w (Obj.cells (s.cs A n c) 24)) 1).trans (show _ = some (Value.slice A n c) from rfl)
  by_cases h0 : n ≤ 5000
  · have d0 : decide ((n : Int) ≤ 5000) = true := decide_eq_true (by omega)
    by_cases h1 : s.nm.size ≤ 100
    · have d1 : decide ((s.nm.size : Int) ≤ 100) = true := decide_eq_true (by omega)
      rw [decide_eq_true (show n ≤ 5000 ∧ s.nm.size ≤ 100 from ⟨h0, h1⟩)]
      clear h0 h1
      go_enter Try.func46, Try.ntmps46
      go_wp2
      go_ret
      exact ⟨rfl, (Below.refl _ _).alloc (Nat.le_refl _) _⟩
    · have d1 : decide ((s.nm.size : Int) ≤ 100) = false := decide_eq_false (by omega)
      rw [decide_eq_false (show ¬ (n ≤ 5000 ∧ s.nm.size ≤ 100) from fun h => h1 h.2)]
      clear h0 h1
      go_enter Try.func46, Try.ntmps46
      go_wp2
      go_ret
      exact ⟨rfl, (Below.refl _ _).alloc (Nat.le_refl _) _⟩
  · have d0 : decide ((n : Int) ≤ 5000) = false := decide_eq_false (by omega)
    rw [decide_eq_false (show ¬ (n ≤ 5000 ∧ s.nm.size ≤ 100) from fun h => h0 h.1)]
    clear h0
    go_enter Try.func46, Try.ntmps46
    go_wp2
    go_ret
    exact ⟨rfl, (Below.refl _ _).alloc (Nat.le_refl _) _⟩
set_option maxHeartbeats 4000000 in
set_option maxRecDepth 100000 in
theorem clip8 (s : S) (A : Option Addr) (n c : Nat) (hb : s.a2 = 8) (x : Int) (w : World) : Calls Try.prog 120 #[.agg (s.cs A n c), iv x] w fun e w' => e = .returned (iv (clp 128 x)) ∧ Below w.heap.size w w' := by
  have c2 := (bkCell (heap_alloc_new w (Obj.cells (s.cs A n c) 24)) 2).trans (show _ = some (iv s.a2) from rfl)
  rw [hb] at c2
  have HB := Lib.hid hb
  clear hb
  have K : ∀ W, Calls Try.prog 93 #[iv x, iv (-128), iv 127] W fun e w' => e = .returned (iv (clp 128 x)) ∧ W = w' := fun W => clamp_any x 128 (by omega) (by omega) W
  have KH := Lib.hid K
  clear K
  go_enter Try.func120, Try.ntmps120
  go_wp2_with (go_at_call 93; (with_reducible refine (KH.out _).mono ?_); rintro e w3 ⟨rfl, rfl⟩)
  go_ret
  exact ⟨rfl, (Below.refl _ _).alloc (Nat.le_refl _) _⟩
set_option maxHeartbeats 4000000 in
set_option maxRecDepth 100000 in
theorem clip16 (s : S) (A : Option Addr) (n c : Nat) (hb : s.a2 = 16) (x : Int) (w : World) : Calls Try.prog 120 #[.agg (s.cs A n c), iv x] w fun e w' => e = .returned (iv (clp 32768 x)) ∧ Below w.heap.size w w' := by
  have c2 := (bkCell (heap_alloc_new w (Obj.cells (s.cs A n c) 24)) 2).trans (show _ = some (iv s.a2) from rfl)
  rw [hb] at c2
  have HB := Lib.hid hb
  clear hb
  have K : ∀ W, Calls Try.prog 93 #[iv x, iv (-32768), iv 32767] W fun e w' => e = .returned (iv (clp 32768 x)) ∧ W = w' := fun W => clamp_any x 32768 (by omega) (by omega) W
  have KH := Lib.hid K
  clear K
  go_enter Try.func120, Try.ntmps120
  go_wp2_with (go_at_call 93; (with_reducible refine (KH.out _).mono ?_); rintro e w3 ⟨rfl, rfl⟩)
  go_ret
  exact ⟨rfl, (Below.refl _ _).alloc (Nat.le_refl _) _⟩
theorem clip_any (s : S) (A : Option Addr) (n c : Nat) (h : Int) (hb : Bits s.a2 h) (x : Int) (w : World) : Calls Try.prog 120 #[.agg (s.cs A n c), iv x] w fun e w' => e = .returned (iv (clp h x)) ∧ Below w.heap.size w w' := by
  rcases hb with ⟨hb, rfl⟩ | ⟨hb, rfl⟩
  · exact clip8 s A n c hb x w
  · exact clip16 s A n c hb x w
set_option maxHeartbeats 4000000 in
set_option maxRecDepth 100000 in
theorem sameInts_any (A D : Option Addr) (n c d b o b' o' : Nat) (xs : Nat → Int) (hn : n ≤ 1000000) (w : World) (hA : DataAt w A n b o xs) (hD : DataAt w D n b' o' xs) :
    Calls Try.prog 95 #[.slice A n c, .slice D n d] w fun e w' => e = .returned (.bool true) ∧ ∃ m, w' = w.drewN m := by
  have HA := Lib.hid hA
  have HD := Lib.hid hD
  have TA := Lib.hid hA.top
  have TD := Lib.hid hD.top
  clear hA hD
  have l0 : (0 : Int) ≤ (n : Int) := by omega
  have e0 : ((n : Int) != (n : Int)) = false := by simp
  go_enter Try.func95, Try.ntmps95
  go_upto_region 4 with (fail)
  go_loopw [13] (fun v wr => ∃ k : Nat, k ≤ n ∧ v = iv k ∧ ∃ m, wr = w.drewN m) (fun v _ => n - (intOf v).toNat)
  case atStart => exact ⟨0, by omega, rfl, 0, rfl⟩
  case round =>
    obtain ⟨k, hk, rfl, m, rfl⟩ := hrel
    by_cases hlt : k < n
    · have tA := TA.out (by omega)
      have tD := TD.out (by omega)
      subst tA tD
      have ha := HA.out.cell k hlt
      have hb := HD.out.cell k hlt
      generalize xs k = x at ha hb
      have h0 : (0 : Int) ≤ (k : Int) := by omega
      have h1 : (k : Int) < (n : Int) := by omega
      go_wp2
      go_quiet (fail)
      go_wp2
      exact ⟨⟨k + 1, by omega, by go_num, _, rfl⟩, by simp [intOf]; omega⟩
    · have h1 : decide ((k : Int) < (n : Int)) = false := decide_eq_false (by omega)
      go_wp2
      go_ret
      exact ⟨rfl, m, rfl⟩
theorem old2 (w : World) (cs ds : Array Value) (i : Nat) {v : Value} (h : cs[i]? = some v) : ((w.alloc (Obj.cells cs 24)).alloc (Obj.cells ds 24)).cell? ⟨w.heap.size, i, none⟩ = some v := (bkCell (heap_alloc2_old w (Obj.cells cs 24) (Obj.cells ds 24)) i).trans h
theorem new2 (w : World) (cs ds : Array Value) (i : Nat) {v : Value} (h : ds[i]? = some v) : ((w.alloc (Obj.cells cs 24)).alloc (Obj.cells ds 24)).cell? ⟨w.heap.size + 1, i, none⟩ = some v := (bkCell (heap_alloc2_new w (Obj.cells cs 24) (Obj.cells ds 24)) i).trans h
set_option maxHeartbeats 4000000 in
set_option maxRecDepth 100000 in
theorem sameSample_any (s : S) (A : Option Addr) (n c : Nat) (D : Option Addr) (d b o b' o' : Nat) (xs : Nat → Int) (hn : n ≤ 1000000) (w : World) (hA : DataAt w A n b o xs) (hD : DataAt w D n b' o' xs) :
    Calls Try.prog 50 #[.agg (s.cs A n c), .agg (s.cs D n d)] w fun e w' => e = .returned (.bool true) ∧ Below w.heap.size w w' := by
  have hb : Below w.heap.size w ((w.alloc (Obj.cells (s.cs A n c) 24)).alloc (Obj.cells (s.cs D n d) 24)) := ((Below.refl _ _).alloc (Nat.le_refl _) _).alloc (by simp) _
  have I := Lib.hid (sameInts_any A D n c d b o b' o' xs hn ((w.alloc (Obj.cells (s.cs A n c) 24)).alloc (Obj.cells (s.cs D n d) 24)) (hA.later hb) (hD.later hb))
  have p0 := old2 w (s.cs A n c) (s.cs D n d) 0 (show _ = some (Value.string s.nm) from rfl)
  have q0 := new2 w (s.cs A n c) (s.cs D n d) 0 (show _ = some (Value.string s.nm) from rfl)
  have p1 := old2 w (s.cs A n c) (s.cs D n d) 1 (show _ = some (Value.slice A n c) from rfl)
  have q1 := new2 w (s.cs A n c) (s.cs D n d) 1 (show _ = some (Value.slice D n d) from rfl)
  have p2 := old2 w (s.cs A n c) (s.cs D n d) 2 (show _ = some (iv s.a2) from rfl)
  have q2 := new2 w (s.cs A n c) (s.cs D n d) 2 (show _ = some (iv s.a2) from rfl)
  have p3 := old2 w (s.cs A n c) (s.cs D n d) 3 (show _ = some (iv s.a3) from rfl)
  have q3 := new2 w (s.cs A n c) (s.cs D n d) 3 (show _ = some (iv s.a3) from rfl)
  have p4 := old2 w (s.cs A n c) (s.cs D n d) 4 (show _ = some (iv s.a4) from rfl)
  have q4 := new2 w (s.cs A n c) (s.cs D n d) 4 (show _ = some (iv s.a4) from rfl)
  have p5 := old2 w (s.cs A n c) (s.cs D n d) 5 (show _ = some (iv s.a5) from rfl)
  have q5 := new2 w (s.cs A n c) (s.cs D n d) 5 (show _ = some (iv s.a5) from rfl)
  have p6 := old2 w (s.cs A n c) (s.cs D n d) 6 (show _ = some (iv s.a6) from rfl)
  have q6 := new2 w (s.cs A n c) (s.cs D n d) 6 (show _ = some (iv s.a6) from rfl)
  have p7 := old2 w (s.cs A n c) (s.cs D n d) 7 (show _ = some (iv s.a7) from rfl)
  have q7 := new2 w (s.cs A n c) (s.cs D n d) 7 (show _ = some (iv s.a7) from rfl)
  have p8 := old2 w (s.cs A n c) (s.cs D n d) 8 (show _ = some (iv s.a8) from rfl)
  have q8 := new2 w (s.cs A n c) (s.cs D n d) 8 (show _ = some (iv s.a8) from rfl)
  have p9 := old2 w (s.cs A n c) (s.cs D n d) 9 (show _ = some (iv s.a9) from rfl)
  have q9 := new2 w (s.cs A n c) (s.cs D n d) 9 (show _ = some (iv s.a9) from rfl)
  have p10 := old2 w (s.cs A n c) (s.cs D n d) 10 (show _ = some (iv s.a10) from rfl)
  have q10 := new2 w (s.cs A n c) (s.cs D n d) 10 (show _ = some (iv s.a10) from rfl)
  have p11 := old2 w (s.cs A n c) (s.cs D n d) 11 (show _ = some (iv s.a11) from rfl)
  have q11 := new2 w (s.cs A n c) (s.cs D n d) 11 (show _ = some (iv s.a11) from rfl)
  have p12 := old2 w (s.cs A n c) (s.cs D n d) 12 (show _ = some (iv s.a12) from rfl)
  have q12 := new2 w (s.cs A n c) (s.cs D n d) 12 (show _ = some (iv s.a12) from rfl)
  clear hA hD
  have e2 : (s.a2 == s.a2) = true := by simp
  have e3 : (s.a3 == s.a3) = true := by simp
  have e4 : (s.a4 == s.a4) = true := by simp
  have e5 : (s.a5 == s.a5) = true := by simp
  have e6 : (s.a6 == s.a6) = true := by simp
  have e7 : (s.a7 == s.a7) = true := by simp
  have e8 : (s.a8 == s.a8) = true := by simp
  have e9 : (s.a9 == s.a9) = true := by simp
  have e10 : (s.a10 == s.a10) = true := by simp
  have e11 : (s.a11 == s.a11) = true := by simp
  have e12 : (s.a12 == s.a12) = true := by simp
  go_enter Try.func50, Try.ntmps50
  go_wp2_with (go_at_call 95; (with_reducible refine I.out.mono ?_); rintro e w3 ⟨rfl, m, rfl⟩)
  go_ret
  exact ⟨rfl, bdN hb _⟩
end Go.Proofs.Ytnmoiolddfboiaa.TX

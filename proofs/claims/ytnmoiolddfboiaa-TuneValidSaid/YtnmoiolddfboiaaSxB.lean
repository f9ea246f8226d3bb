/- Reading a sample behind a pointer: the loop that applies, the beginning, a frame. -/
import Derived.Test.YtnmoiolddfboiaaSxA
namespace Go.Proofs.Ytnmoiolddfboiaa.SX
open Go.RowKit Go.Proofs.YtnmoiolddfboiaaW.PrintLast Go.Proofs.Ytnmoiolddfboiaa.TX Go.Proofs.Ytnmoiolddfboiaa.Cu
set_option linter.unusedVariables false
set_option linter.unusedSimpArgs false
def rgS (s : S) (held : Bool) : Int × Int × Int := rgk s.a7 s.a8 s.a9 s.a10 s.a11 s.a12 held
set_option maxHeartbeats 4000000 in
set_option maxRecDepth 100000 in
theorem applies_any (s : S) (A : Option Addr) (n c g : Nat) (held : Bool) (w : World) (hP : w.heap[g]? = some (.cells (s.cs A n c) 24 (0, 0))) : Calls Try.prog 65 #[.pointer (some ⟨g, 0, none⟩), .bool held] w fun e w' => e = .returned (.tuple #[iv (rgS s held).1, iv (rgS s held).2.1, iv (rgS s held).2.2]) ∧ ∃ m, w' = w.drewN m := by
  have p7 := (bkCell hP 7).trans (show _ = some (iv s.a7) from rfl)
  have p8 := (bkCell hP 8).trans (show _ = some (iv s.a8) from rfl)
  have p9 := (bkCell hP 9).trans (show _ = some (iv s.a9) from rfl)
  have p10 := (bkCell hP 10).trans (show _ = some (iv s.a10) from rfl)
  have p11 := (bkCell hP 11).trans (show _ = some (iv s.a11) from rfl)
  have p12 := (bkCell hP 12).trans (show _ = some (iv s.a12) from rfl)
  clear hP
  cases held
  · rw [show rgS s false = (s.a7, s.a8, s.a9) from by unfold rgS rgk; rw [if_neg (by decide)]]
    go_enter Try.func65, Try.ntmps65
    go_wp2
    go_quiet (fail)
    go_wp2
    go_ret3
    exact ⟨rfl, _, rfl⟩
  · by_cases hz : s.a10 = 0
    · rw [show rgS s true = (s.a7, s.a8, s.a9) from by unfold rgS rgk; rw [if_pos rfl, if_pos hz]]
      have e0 : (s.a10 != 0) = false := by simp [hz]
      clear hz
      go_enter Try.func65, Try.ntmps65
      go_wp2
      go_quiet (fail)
      go_wp2
      go_ret3
      exact ⟨rfl, _, rfl⟩
    · rw [show rgS s true = (s.a10, s.a11, s.a12) from by unfold rgS rgk; rw [if_pos rfl, if_neg hz]]
      have e0 : (s.a10 != 0) = true := by simp [hz]
      clear hz
      go_enter Try.func65, Try.ntmps65
      go_wp2
      go_quiet (fail)
      go_wp2
      go_ret3
      exact ⟨rfl, _, rfl⟩
def Cur.cs (c : Cur) : Array Value := #[iv c.pos, iv c.frac, .bool c.back, .bool c.done]
/-- the beginning -/
def begM (n : Nat) (off : Int) (back : Bool) : Cur := if off < 0 ∨ (n : Int) ≤ off then Cur.over else if back = true then ⟨n - 1 - off, 0, true, false⟩ else ⟨off, 0, false, false⟩
theorem Cur.i26 (c : Cur) : (Try.prog.info? 26).map (·.size) = some (Cur.cs c).size := by kernel_rfl
theorem Cur.one (c : Cur) : (Cur.cs c).all (·.oneCell') = true := by simp [Cur.cs, Value.oneCell']
theorem Cur.sz (c d : Cur) : (Cur.cs c).size = (Cur.cs d).size := rfl
def Cur.zero : Cur := ⟨0, 0, false, false⟩
theorem built26 : Try.prog.built 26 [] = some (Cur.cs Cur.zero) := by kernel_rfl
theorem resCur {w : World} {g : Nat} {c : Cur} (h : w.heap[g]? = some (.cells (Cur.cs c) 26 (0, 0))) : True := trivial
set_option maxHeartbeats 4000000 in
set_option maxRecDepth 100000 in
theorem begin_any (s : S) (A : Option Addr) (n c g : Nat) (off : Int) (back : Bool) (ho : -9223372036854775808 ≤ off ∧ off ≤ 9223372036854775807) (hn : n ≤ 1000000) (w : World) (hP : w.heap[g]? = some (.cells (s.cs A n c) 24 (0, 0))) : Calls Try.prog 60 #[.pointer (some ⟨g, 0, none⟩), iv off, .bool back] w fun e w' => e = .returned (.agg (Cur.cs (begM n off back))) ∧ Below w.heap.size w w' := by
  have hg := bkLt hP
  have p1 := (bkCell hP 1).trans (show _ = some (.slice A n c) from rfl)
  clear hP
  by_cases h0 : off < 0
  · rw [show begM n off back = Cur.over from if_pos (.inl h0)]
    go_enter Try.func60, Try.ntmps60
    go_wp2
    exact bodyPost_ret (results_cell_row rfl _ _ (w.heap.size) 26 _ (0, 0) _ rfl (heap_alloc_new _ _) Try.underlying26 rfl (by kernel_rfl)) rfl ⟨rfl, (Below.refl _ _).alloc (Nat.le_refl _) _⟩
  · by_cases h1 : (n : Int) ≤ off
    · rw [show begM n off back = Cur.over from if_pos (.inr h1)]
      have d0 : decide (off < 0) = false := decide_eq_false h0
      go_enter Try.func60, Try.ntmps60
      go_wp2
      exact bodyPost_ret (results_cell_row rfl _ _ (w.heap.size) 26 _ (0, 0) _ rfl (heap_alloc_new _ _) Try.underlying26 rfl (by kernel_rfl)) rfl ⟨rfl, (Below.refl _ _).alloc (Nat.le_refl _) _⟩
    · have d0 : decide (off < 0) = false := decide_eq_false h0
      have d1 : decide ((n : Int) ≤ off) = false := decide_eq_false h1
      cases back
      · rw [show begM n off false = ⟨off, 0, false, false⟩ from by unfold begM; rw [if_neg (by omega), if_neg (by decide)]]
        go_enter Try.func60, Try.ntmps60
        go_wp2
        exact bodyPost_ret (results_cell_row rfl _ _ (w.heap.size) 26 _ (0, 0) _ rfl (heap_alloc_new _ _) Try.underlying26 rfl (by kernel_rfl)) rfl ⟨rfl, (Below.refl _ _).alloc (Nat.le_refl _) _⟩
      · rw [show begM n off true = ⟨n - 1 - off, 0, true, false⟩ from by unfold begM; rw [if_neg (by omega), if_pos rfl]]
        have q0 : 0 ≤ off := by omega
        have q1 : off < n := by omega
        go_enter Try.func60, Try.ntmps60
        go_wp2
        exact bodyPost_ret (results_cell_row rfl _ _ (w.heap.size) 26 _ (0, 0) _ rfl (heap_alloc_new _ _) Try.underlying26 rfl (by kernel_rfl)) rfl ⟨rfl, (Below.refl _ _).alloc (Nat.le_refl _) _⟩
end Go.Proofs.Ytnmoiolddfboiaa.SX

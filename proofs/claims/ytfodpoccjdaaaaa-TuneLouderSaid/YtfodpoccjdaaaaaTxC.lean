/- Samples: tame, clipped, the same, copied. -/
import Derived.Test.YtfodpoccjdaaaaaTxB
namespace Go.Proofs.Ytfodpoccjdaaaaa.TX
open Go.RowKit Go.Proofs.YtfodpoccjdaaaaaW.PrintLast
set_option linter.unusedVariables false
set_option linter.unusedSimpArgs false
set_option maxHeartbeats 4000000 in
set_option maxRecDepth 100000 in
theorem tame_any (s : S) (A : Option Addr) (n c : Nat) (w : World) : Calls Try.prog 32 #[.agg (s.cs A n c)] w fun e w' => e = .returned (.bool (decide (n ≤ 5000 ∧ s.nm.size ≤ 100))) ∧ Below w.heap.size w w' := by
  have c0 := (bkCell (heap_alloc_new w (Obj.cells (s.cs A n c) 31)) 0).trans (show _ = some (Value.string s.nm) from rfl)
  have c1 := (bkCell (heap_alloc_new w (Obj.cells (s.cs A n c) 31)) 1).trans (show _ = some (Value.slice A n c) from rfl)
  by_cases h0 : n ≤ 5000
  · have d0 : decide ((n : Int) ≤ 5000) = true := decide_eq_true (by omega)
    by_cases h1 : s.nm.size ≤ 100
    · have d1 : decide ((s.nm.size : Int) ≤ 100) = true := decide_eq_true (by omega)
      rw [decide_eq_true (show n ≤ 5000 ∧ s.nm.size ≤ 100 from ⟨h0, h1⟩)]
      clear h0 h1
      go_enter Try.func32, Try.ntmps32
      go_wp2
      go_ret
      exact ⟨rfl, (Below.refl _ _).alloc (Nat.le_refl _) _⟩
    · have d1 : decide ((s.nm.size : Int) ≤ 100) = false := decide_eq_false (by omega)
      rw [decide_eq_false (show ¬ (n ≤ 5000 ∧ s.nm.size ≤ 100) from fun h => h1 h.2)]
      clear h0 h1
      go_enter Try.func32, Try.ntmps32
      go_wp2
      go_ret
      exact ⟨rfl, (Below.refl _ _).alloc (Nat.le_refl _) _⟩
  · have d0 : decide ((n : Int) ≤ 5000) = false := decide_eq_false (by omega)
    rw [decide_eq_false (show ¬ (n ≤ 5000 ∧ s.nm.size ≤ 100) from fun h => h0 h.1)]
    clear h0
    go_enter Try.func32, Try.ntmps32
    go_wp2
    go_ret
    exact ⟨rfl, (Below.refl _ _).alloc (Nat.le_refl _) _⟩
theorem old2 (w : World) (cs ds : Array Value) (i : Nat) {v : Value} (h : cs[i]? = some v) : ((w.alloc (Obj.cells cs 31)).alloc (Obj.cells ds 31)).cell? ⟨w.heap.size, i, none⟩ = some v := (bkCell (heap_alloc2_old w (Obj.cells cs 31) (Obj.cells ds 31)) i).trans h
theorem new2 (w : World) (cs ds : Array Value) (i : Nat) {v : Value} (h : ds[i]? = some v) : ((w.alloc (Obj.cells cs 31)).alloc (Obj.cells ds 31)).cell? ⟨w.heap.size + 1, i, none⟩ = some v := (bkCell (heap_alloc2_new w (Obj.cells cs 31) (Obj.cells ds 31)) i).trans h
end Go.Proofs.Ytfodpoccjdaaaaa.TX

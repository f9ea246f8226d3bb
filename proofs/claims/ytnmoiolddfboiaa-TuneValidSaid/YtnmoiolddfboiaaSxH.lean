/- The chapter's example holds; equal cursors. -/
import Derived.Test.YtnmoiolddfboiaaSxG
namespace Go.Proofs.Ytnmoiolddfboiaa.SX
open Go.RowKit Go.Proofs.YtnmoiolddfboiaaW.PrintLast Go.Proofs.Ytnmoiolddfboiaa.TX Go.Proofs.Ytnmoiolddfboiaa.Cu
set_option linter.unusedVariables false
set_option linter.unusedSimpArgs false
def sA : S := ⟨⟨#[]⟩, 16, 8363, 0, 0, 0, 2, 1, 4, 0, 0, 0⟩
def lA : List Int := [1, 2, 3, 4]
def xA (i : Nat) : Int := lA.getD i 0
def lB : List Int := [1, 2, 3, 4, 4, 3, 2, 2]
def xB (i : Nat) : Int := lB.getD i 0
theorem vA : vS sA 4 xA = true := by decide +kernel
theorem uA : ∀ i, i < 8 → unrF sA 4 xA false i = xB i := by decide +kernel
set_option maxHeartbeats 4000000 in
set_option maxRecDepth 100000 in
theorem awake_any (w : World) : Calls Try.prog 16 #[] w fun e w' => e = .returned (.bool true) ∧ Below w.heap.size w w' := by
  have B0 : Below w.heap.size w ((w.alloc (Obj.cells #[iv 1, iv 2, iv 3, iv 4] 3)).alloc (Obj.cells #[.string ⟨#[]⟩, .slice (some ⟨w.heap.size, 0, none⟩) 4 4, iv 16, iv 8363, iv 0, iv 0, iv 0, iv 2, iv 1, iv 4, iv 0, iv 0, iv 0] 24)) := ((Below.refl _ _).alloc (Nat.le_refl _) _).alloc (by simp) _
  have P0 := Lib.hid (show ((w.alloc (Obj.cells #[iv 1, iv 2, iv 3, iv 4] 3)).alloc (Obj.cells #[.string ⟨#[]⟩, .slice (some ⟨w.heap.size, 0, none⟩) 4 4, iv 16, iv 8363, iv 0, iv 0, iv 0, iv 2, iv 1, iv 4, iv 0, iv 0, iv 0] 24)).heap[w.heap.size + 1]? = some (.cells (sA.cs (some ⟨w.heap.size, 0, none⟩) 4 4) 24 (0, 0)) from heap_alloc2_new w _ _)
  have D0 : DataAt ((w.alloc (Obj.cells #[iv 1, iv 2, iv 3, iv 4] 3)).alloc (Obj.cells #[.string ⟨#[]⟩, .slice (some ⟨w.heap.size, 0, none⟩) 4 4, iv 16, iv 8363, iv 0, iv 0, iv 0, iv 2, iv 1, iv 4, iv 0, iv 0, iv 0] 24)) (some ⟨w.heap.size, 0, none⟩) 4 (w.heap.size) 0 xA := ⟨fun _ => rfl, fun _ => by first | (simp; done) | (simp; omega), fun i hi => by
    rcases (by omega : i = 0 ∨ i = 1 ∨ i = 2 ∨ i = 3) with rfl | rfl | rfl | rfl <;> exact (bkCell (heap_alloc2_old w _ _) _).trans rfl⟩
  have UQ := Lib.hid (show Calls Try.prog 21 #[.agg (sA.cs (some ⟨w.heap.size, 0, none⟩) 4 4), iv 8, .bool false] ((w.alloc (Obj.cells #[iv 1, iv 2, iv 3, iv 4] 3)).alloc (Obj.cells #[.string ⟨#[]⟩, .slice (some ⟨w.heap.size, 0, none⟩) 4 4, iv 16, iv 8363, iv 0, iv 0, iv 0, iv 2, iv 1, iv 4, iv 0, iv 0, iv 0] 24)) fun e w' => ∃ A' c' b' o', e = .returned (.tuple #[.slice A' 8 c', iv 0]) ∧ DataAt w' A' 8 b' o' xB ∧ Below ((w.alloc (Obj.cells #[iv 1, iv 2, iv 3, iv 4] 3)).alloc (Obj.cells #[.string ⟨#[]⟩, .slice (some ⟨w.heap.size, 0, none⟩) 4 4, iv 16, iv 8363, iv 0, iv 0, iv 0, iv 2, iv 1, iv 4, iv 0, iv 0, iv 0] 24)).heap.size ((w.alloc (Obj.cells #[iv 1, iv 2, iv 3, iv 4] 3)).alloc (Obj.cells #[.string ⟨#[]⟩, .slice (some ⟨w.heap.size, 0, none⟩) 4 4, iv 16, iv 8363, iv 0, iv 0, iv 0, iv 2, iv 1, iv 4, iv 0, iv 0, iv 0] 24)) w' by
    refine (sunroll_any sA (some ⟨w.heap.size, 0, none⟩) 4 4 w.heap.size 0 xA 8 false (by omega) (by omega) ((w.alloc (Obj.cells #[iv 1, iv 2, iv 3, iv 4] 3)).alloc (Obj.cells #[.string ⟨#[]⟩, .slice (some ⟨w.heap.size, 0, none⟩) 4 4, iv 16, iv 8363, iv 0, iv 0, iv 0, iv 2, iv 1, iv 4, iv 0, iv 0, iv 0] 24)) D0).mono ?_
    rintro e w' ⟨A', c', b', o', h1, h2, -, h4⟩
    have e1 : unrN sA 4 xA 8 = 8 := if_pos ⟨vA, by omega, by omega⟩
    have e2 : unrE sA 4 xA 8 = 0 := by unfold unrE; rw [if_pos vA, if_pos ⟨by omega, by omega⟩]
    rw [e1, e2] at h1
    rw [e1] at h2
    exact ⟨A', c', b', o', h1, h2.congr uA, h4⟩)
  have ND := Lib.hid D0
  clear D0
  go_enter Try.func16, Try.ntmps16
  go_upto_region 3 with (first
    | (refine wpList_load_row rfl 24 (.tmp 1) rfl (w.heap.size + 1) rfl 24 _ (0, 0) _ P0.out Try.underlying24 rfl (S.i24 _ _ _ _) ?_)
    | (go_at_call 21; (with_reducible refine UQ.out.mono ?_); rintro e w3 ⟨A3, c3, b3, o3, rfl, X3, hb3⟩; have P3 := Lib.hid (bkBelow P0.out hb3); have D3 := Lib.hid (ND.out.later hb3); have B3 := bdT B0 B0.size hb3; have N3 := Lib.hid X3; clear X3))
  have B4 : Below w.heap.size w (w3.alloc (Obj.cells #[iv 1, iv 2, iv 3, iv 4, iv 4, iv 3, iv 2, iv 2] 3)) := B3.alloc B3.size _
  have K4 : Below w3.heap.size w3 (w3.alloc (Obj.cells #[iv 1, iv 2, iv 3, iv 4, iv 4, iv 3, iv 2, iv 2] 3)) := (Below.refl _ _).alloc (Nat.le_refl _) _
  have P4 := Lib.hid (bkBelow P3.out K4)
  have D4 := Lib.hid (D3.out.later K4)
  have N4 := Lib.hid (N3.out.later K4)
  have D8 : DataAt (w3.alloc (Obj.cells #[iv 1, iv 2, iv 3, iv 4, iv 4, iv 3, iv 2, iv 2] 3)) (some ⟨w3.heap.size, 0, none⟩) 8 (w3.heap.size) 0 xB := ⟨fun _ => rfl, fun _ => by first | (simp; done) | (simp; omega), fun i hi => by
    rcases (by omega : i = 0 ∨ i = 1 ∨ i = 2 ∨ i = 3 ∨ i = 4 ∨ i = 5 ∨ i = 6 ∨ i = 7) with rfl | rfl | rfl | rfl | rfl | rfl | rfl | rfl <;> exact (bkCell (heap_alloc_new w3 _) _).trans rfl⟩
  have SQ := Lib.hid (same_yes A3 (some ⟨w3.heap.size, 0, none⟩) 8 c3 8 b3 o3 w3.heap.size 0 xB (by omega) (w3.alloc (Obj.cells #[iv 1, iv 2, iv 3, iv 4, iv 4, iv 3, iv 2, iv 2] 3)) N4.out D8)
  clear D8 K4
  have VQ := Lib.hid fun (W : World) (h : DataAt W (some ⟨w.heap.size, 0, none⟩) 4 w.heap.size 0 xA) => show Calls Try.prog 15 #[.agg (sA.cs (some ⟨w.heap.size, 0, none⟩) 4 4)] W fun e w' => e = .returned (.bool true) ∧ Below W.heap.size W w' from by have := valid_any sA (some ⟨w.heap.size, 0, none⟩) 4 4 w.heap.size 0 xA (by omega) (by omega) W h; rwa [vA] at this
  go_wp2_with (first
    | (go_at_call 30; (with_reducible refine SQ.out.mono ?_); rintro e w5 ⟨rfl, m5, rfl⟩; have P5 := Lib.hid (show ((w3.alloc (Obj.cells #[iv 1, iv 2, iv 3, iv 4, iv 4, iv 3, iv 2, iv 2] 3)).drewN m5).heap[w.heap.size + 1]? = _ from P4.out); have B5 := bdN B4 m5)
    | (refine gdOn (by rfl) ?_; refine wpList_load_row rfl 24 (.tmp 1) rfl (w.heap.size + 1) rfl 24 _ (0, 0) _ P5.out Try.underlying24 rfl (S.i24 _ _ _ _) ?_)
    | (go_at_call 15; (with_reducible refine (VQ.out _ (D4.out.later (bdN (Below.refl _ _) m5))).mono ?_); rintro e w6 ⟨rfl, hb6⟩; have B6 := bdT B5 B5.size hb6))
  go_ret
  exact ⟨rfl, B6⟩
end Go.Proofs.Ytnmoiolddfboiaa.SX

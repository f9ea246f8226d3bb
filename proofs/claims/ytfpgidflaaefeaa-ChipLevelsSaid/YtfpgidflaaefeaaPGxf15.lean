/- Written by a program of this session (wip/tools/xprint.py, over the functions of the kit's print): functions of the given program as Lean functions, each with its contract, or a law's row; no condition. -/
import Derived.Test.YtfpgidflaaefeaaPGx0
import Derived.Test.YtfpgidflaaefeaaPGxf33
namespace Go.Proofs.Ytfpgidflaaefeaa.PG
open Go.RowKit Go.Proofs.YtfpgidflaaefeaaW.PrintWords Go.Proofs.YtfpgidflaaefeaaW.PrintLast Go.Proofs.YtfpgidflaaefeaaW.PrintMore
attribute [local go_sem] max2_int min2_int max_two min_two max_three min_three max_four min_four   -- for this text's walks alone
set_option linter.unusedVariables false
set_option linter.unusedSimpArgs false

/-! ### chip_Levels: function 15 (a text of this session) -/
def lvL : List Int := [0, 62, 89, 127, 180, 255, 361, 511, 723, 1023, 1447, 2047, 2895, 4095, 5792, 8192]
def chip_Levels.f : Option (List Int) := some lvL
set_option maxHeartbeats 4000000 in
set_option maxRecDepth 100000 in
theorem chip_Levels.calls (r : List Int) (w : World) (h : chip_Levels.f = some r) :
    Calls Try.prog 15 #[] w fun e w' => ∃ v0_ : Value, e = .returned (v0_) ∧ Kd.V (Kd.int .i64) 3 w' w.heap.size (fun k_ => (w.heap.size ≤ k_)) v0_ r ∧ Below w.heap.size w w' := by
  obtain rfl := Option.some.inj h
  go_enter Try.func15, Try.ntmps15
  go_wp2_with (go_at_call 33; refine (lev _).mono ?_; rintro e w1 ⟨rfl, hb1⟩)
  go_ret
  have hr : Kd.R (Kd.int .i64) 65 (w1.alloc (Obj.cells (lvL.map (.int .i64 ·)).toArray 65)) w.heap.size (fun k_ => w.heap.size ≤ k_) (.slice (some ⟨w1.heap.size, 0, none⟩) 16 16) lvL := Kd.R_of_own ⟨rfl, .inr ⟨w1.heap.size, 16, _, rfl, by have := hb1.size; omega, heap_alloc_new w1 _, by decide, by unfold maxLen; omega, rfl, rfl⟩⟩ (fun k_ hk_ => by have h9 := hb1.size; have h8 : w1.heap.size = k_ := (by simpa [Value.ownBlock] using hk_); omega)
  exact ⟨.slice (some ⟨w1.heap.size, 0, none⟩) 16 16, rfl, (Kd.R_V hr : Kd.V (Kd.int .i64) 65 _ w.heap.size (fun k_ => w.heap.size ≤ k_) (.slice (some ⟨w1.heap.size, 0, none⟩) 16 16) lvL), ((Below.refl _ _).trans hb1).alloc (by have := hb1.size; omega) _⟩

end Go.Proofs.Ytfpgidflaaefeaa.PG

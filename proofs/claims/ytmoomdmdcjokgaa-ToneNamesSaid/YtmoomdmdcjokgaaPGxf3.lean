/- Written by a program of this session (wip/tools/xprint.py, over the functions of the kit's print): functions of the given program as Lean functions, each with its contract, or a law's row; no condition. -/
import Derived.Test.YtmoomdmdcjokgaaPGx0
import Derived.Test.YtmoomdmdcjokgaaPGxf9
import Derived.Test.YtmoomdmdcjokgaaPGxf8
namespace Go.Proofs.Ytmoomdmdcjokgaa.PG
open Go.RowKit Go.Proofs.YtmoomdmdcjokgaaW.PrintWords Go.Proofs.YtmoomdmdcjokgaaW.PrintLast Go.Proofs.YtmoomdmdcjokgaaW.PrintMore
attribute [local go_sem] max2_int min2_int max_two min_two max_three min_three max_four min_four   -- for this text's walks alone
set_option linter.unusedVariables false
set_option linter.unusedSimpArgs false

/-! ### orchestrionlaw01_ToneOctaves: function 3 (a text of this session) -/
def orchestrionlaw01_ToneOctaves.Pure : Prop := ∃ k : Nat, orchestrionlaw01_awake.f k = some true ∧ ∀ (a0 : Int) (a1 : Int), -7680 ≤ a0 → a0 ≤ 6912 → a0 ≤ a1 → a1 ≤ 7680 →
  ∃ t0 t1 t2 : Int, tone_Exp.f k (a0 + 768) = some t0 ∧ tone_Exp.f k a0 = some t1 ∧ tone_Exp.f k a1 = some t2 ∧ (t0 - 2 * t1 = 0 ∨ t0 - 2 * t1 = 1) ∧ t1 ≤ t2 ∧ 0 < t1 ∧ t2 ≤ 67108864 ∧ t0 ≤ 67108864
theorem octaves_out (k : Nat) (ea : orchestrionlaw01_awake.f k = some true) (a0 a1 : Int) (h : a0 < -7680 ∨ 6912 < a0 ∨ a1 < a0 ∨ 7680 < a1) (w : World) :
    Calls Try.prog 3 #[.int .i64 a0, .int .i64 a1] w fun e w' => e = .returned (.bool true) ∧ Below w.heap.size w w' := by
  have EA := Lib.hid ea
  clear ea
  have HB : Below w.heap.size w w := Below.refl _ _
  go_enter Try.func3, Try.ntmps3
  go_wp2_with (first | (go_at_call 8; refine (orchestrionlaw01_awake.calls k true _ EA.out).mono ?_; rintro e w1 ⟨rfl, hb1⟩; replace HB := HB.trans (hb1.mono HB.size); clear hb1) | (go_at_call 9; exfalso; omega))
  all_goals first | (go_ret; exact ⟨rfl, HB⟩) | (exfalso; omega)
set_option maxHeartbeats 1000000 in
theorem octaves_in (k : Nat) (ea : orchestrionlaw01_awake.f k = some true) (a0 a1 t0 t1 t2 : Int) (h0 : -7680 ≤ a0) (h1 : a0 ≤ 6912) (h2 : a0 ≤ a1) (h3 : a1 ≤ 7680) (e0 : tone_Exp.f k (a0 + 768) = some t0) (e1 : tone_Exp.f k a0 = some t1) (e2 : tone_Exp.f k a1 = some t2)
    (hd : t0 - 2 * t1 = 0 ∨ t0 - 2 * t1 = 1) (hle : t1 ≤ t2) (hp : 0 < t1) (hb2 : t2 ≤ 67108864) (hb0 : t0 ≤ 67108864) (w : World) :
    Calls Try.prog 3 #[.int .i64 a0, .int .i64 a1] w fun e w' => e = .returned (.bool true) ∧ Below w.heap.size w w' := by
  have EA := Lib.hid ea
  have E0 := Lib.hid e0
  have E1 := Lib.hid e1
  have E2 := Lib.hid e2
  have g0 : -1 ≤ t0 := by omega
  clear ea e0 e1 e2
  have H : ((t0 - 2 * t1 == 0) = true) ∨ ((t0 - 2 * t1 == 0) = false ∧ (t0 - 2 * t1 == 1) = true) := by
    rcases hd with h | h
    · exact .inl (by rw [h]; rfl)
    · exact .inr ⟨by rw [h]; rfl, by rw [h]; rfl⟩
  clear hd
  rcases H with c | ⟨c, c'⟩
  all_goals
    have HB : Below w.heap.size w w := Below.refl _ _
    go_enter Try.func3, Try.ntmps3
    go_wp2_with (first | (go_at_call 8; refine (orchestrionlaw01_awake.calls k true _ EA.out).mono ?_; rintro e w1 ⟨rfl, hb1⟩; replace HB := HB.trans (hb1.mono HB.size); clear hb1) | (go_at_call 9; (with_reducible refine (tone_Exp.calls k (a0 + 768) t0 _ E0.out).mono ?_); rintro e w1 ⟨rfl, hb1⟩; replace HB := HB.trans (hb1.below.mono HB.size); clear hb1) | (go_at_call 9; (with_reducible refine (tone_Exp.calls k a0 t1 _ E1.out).mono ?_); rintro e w1 ⟨rfl, hb1⟩; replace HB := HB.trans (hb1.below.mono HB.size); clear hb1) | (go_at_call 9; (with_reducible refine (tone_Exp.calls k a1 t2 _ E2.out).mono ?_); rintro e w1 ⟨rfl, hb1⟩; replace HB := HB.trans (hb1.below.mono HB.size); clear hb1))
    go_ret
    exact ⟨rfl, HB⟩
theorem orchestrionlaw01_ToneOctaves.walk (P : orchestrionlaw01_ToneOctaves.Pure) (a0 : Int) (a1 : Int) (w : World) (w0 : (Lit.int .i64 a0).wf = true) (w1 : (Lit.int .i64 a1).wf = true) :
    Calls Try.prog 3 #[.int .i64 a0, .int .i64 a1] w fun e w' => e = .returned (.bool true) ∧ Below w.heap.size w w' := by
  obtain ⟨k, ea, P⟩ := P
  by_cases h : a0 < -7680 ∨ 6912 < a0 ∨ a1 < a0 ∨ 7680 < a1
  · exact octaves_out k ea a0 a1 h w
  · obtain ⟨t0, t1, t2, e0, e1, e2, hd, hle, hp, hb2, hb0⟩ := P a0 a1 (by omega) (by omega) (by omega) (by omega)
    exact octaves_in k ea a0 a1 t0 t1 t2 (by omega) (by omega) (by omega) (by omega) e0 e1 e2 hd hle hp hb2 hb0 w

end Go.Proofs.Ytmoomdmdcjokgaa.PG

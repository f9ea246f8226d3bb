/- Written by a program of this session (wip/tools/xprint.py, over the functions of the kit's print): functions of the given program as Lean functions, each with its contract, or a law's row; no condition. -/
import Derived.Test.YtmoomdmdcjokgaaPGx0
import Derived.Test.YtmoomdmdcjokgaaPGxf10
import Derived.Test.YtmoomdmdcjokgaaPGxf11
import Derived.Test.YtmoomdmdcjokgaaPGxf12
import Derived.Test.YtmoomdmdcjokgaaPGxf8
namespace Go.Proofs.Ytmoomdmdcjokgaa.PG
open Go.RowKit Go.Proofs.YtmoomdmdcjokgaaW.PrintWords Go.Proofs.YtmoomdmdcjokgaaW.PrintLast Go.Proofs.YtmoomdmdcjokgaaW.PrintMore
attribute [local go_sem] max2_int min2_int max_two min_two max_three min_three max_four min_four   -- for this text's walks alone
set_option linter.unusedVariables false
set_option linter.unusedSimpArgs false

/-! ### orchestrionlaw01_ToneRises: function 4 (a text of this session) -/
def orchestrionlaw01_ToneRises.Pure : Prop := ∃ k : Nat, orchestrionlaw01_awake.f k = some true ∧ ∀ (p q rate : Int), -3840 ≤ p → q ≤ 11519 → p ≤ q → 1 ≤ rate → rate ≤ 65535 →
  ∃ f0 f1 p0 p1 : Int, tone_Freq.f k rate p = some f0 ∧ tone_Freq.f k rate q = some f1 ∧ tone_Period.f k p = some p0 ∧ tone_Period.f k q = some p1 ∧ f0 ≤ f1 ∧ p1 ≤ p0 ∧ 1 ≤ p1 ∧
  (0 ≤ p → p < 7679 → ∃ r : Int, tone_PitchOf.f k p0 = some r ∧ tone_Period.f k r = some p0 ∧ p ≤ r ∧ (r = 7679 ∨ (r < 7679 ∧ ∃ p2 : Int, tone_Period.f k (r + 1) = some p2 ∧ p2 < p0)))
theorem rises_out (k : Nat) (ea : orchestrionlaw01_awake.f k = some true) (a0 a1 a2 : Int) (h : a0 < -3840 ∨ 11519 < a1 ∨ a1 < a0 ∨ a2 < 1 ∨ 65535 < a2) (w : World) :
    Calls Try.prog 4 #[.int .i64 a0, .int .i64 a1, .int .i64 a2] w fun e w' => e = .returned (.bool true) ∧ Below w.heap.size w w' := by
  have EA := Lib.hid ea
  clear ea
  have HB : Below w.heap.size w w := Below.refl _ _
  go_enter Try.func4, Try.ntmps4
  go_wp2_with (first | (go_at_call 8; refine (orchestrionlaw01_awake.calls k true _ EA.out).mono ?_; rintro e w1 ⟨rfl, hb1⟩; replace HB := HB.trans (hb1.mono HB.size); clear hb1) | (go_at_call 10; exfalso; omega))
  all_goals first | (go_ret; exact ⟨rfl, HB⟩) | (exfalso; omega)
set_option maxHeartbeats 1000000 in
theorem rises_in (k : Nat) (ea : orchestrionlaw01_awake.f k = some true) (p q rate f0 f1 p0 p1 : Int) (h0 : -3840 ≤ p) (h1 : q ≤ 11519) (h2 : p ≤ q) (h3 : 1 ≤ rate) (h4 : rate ≤ 65535)
    (e0 : tone_Freq.f k rate p = some f0) (e1 : tone_Freq.f k rate q = some f1) (e2 : tone_Period.f k p = some p0) (e3 : tone_Period.f k q = some p1) (g0 : f0 ≤ f1) (g1 : p1 ≤ p0) (g2 : 1 ≤ p1) (hp : p < 0 ∨ 7679 ≤ p) (w : World) :
    Calls Try.prog 4 #[.int .i64 p, .int .i64 q, .int .i64 rate] w fun e w' => e = .returned (.bool true) ∧ Below w.heap.size w w' := by
  have EA := Lib.hid ea
  have E0 := Lib.hid e0
  have E1 := Lib.hid e1
  have E2 := Lib.hid e2
  have E3 := Lib.hid e3
  clear ea e0 e1 e2 e3
  have HB : Below w.heap.size w w := Below.refl _ _
  rcases hp with hp | hp
  all_goals
    go_enter Try.func4, Try.ntmps4
    go_wp2_with (first | (go_at_call 8; refine (orchestrionlaw01_awake.calls k true _ EA.out).mono ?_; rintro e w1 ⟨rfl, hb1⟩; replace HB := HB.trans (hb1.mono HB.size); clear hb1) | (go_at_call 10; (with_reducible refine (tone_Freq.calls k rate p f0 _ E0.out).mono ?_); rintro e w1 ⟨rfl, hb1⟩; replace HB := HB.trans (hb1.below.mono HB.size); clear hb1) | (go_at_call 10; (with_reducible refine (tone_Freq.calls k rate q f1 _ E1.out).mono ?_); rintro e w1 ⟨rfl, hb1⟩; replace HB := HB.trans (hb1.below.mono HB.size); clear hb1) | (go_at_call 11; (with_reducible refine (tone_Period.calls k p p0 _ E2.out).mono ?_); rintro e w1 ⟨rfl, hb1⟩; replace HB := HB.trans (hb1.mono HB.size); clear hb1) | (go_at_call 11; (with_reducible refine (tone_Period.calls k q p1 _ E3.out).mono ?_); rintro e w1 ⟨rfl, hb1⟩; replace HB := HB.trans (hb1.mono HB.size); clear hb1))
    go_ret
    exact ⟨rfl, HB⟩
set_option maxHeartbeats 1000000 in
theorem rises_mid (k : Nat) (ea : orchestrionlaw01_awake.f k = some true) (p q rate f0 f1 p0 p1 r : Int) (h0 : 0 ≤ p) (h1 : q ≤ 11519) (h2 : p ≤ q) (h3 : 1 ≤ rate) (h4 : rate ≤ 65535)
    (e0 : tone_Freq.f k rate p = some f0) (e1 : tone_Freq.f k rate q = some f1) (e2 : tone_Period.f k p = some p0) (e3 : tone_Period.f k q = some p1) (g0 : f0 ≤ f1) (g1 : p1 ≤ p0) (g2 : 1 ≤ p1) (hp : p < 7679)
    (e4 : tone_PitchOf.f k p0 = some r) (e5 : tone_Period.f k r = some p0) (hr : p ≤ r) (p2 : Int) (he : r = 7679 ∨ (r < 7679 ∧ tone_Period.f k (r + 1) = some p2 ∧ p2 < p0)) (w : World) :
    Calls Try.prog 4 #[.int .i64 p, .int .i64 q, .int .i64 rate] w fun e w' => e = .returned (.bool true) ∧ Below w.heap.size w w' := by
  have EA := Lib.hid ea
  have E0 := Lib.hid e0
  have E1 := Lib.hid e1
  have E2 := Lib.hid e2
  have E3 := Lib.hid e3
  have E4 := Lib.hid e4
  have E5 := Lib.hid e5
  clear ea e0 e1 e2 e3 e4 e5
  have HB : Below w.heap.size w w := Below.refl _ _
  rcases he with rfl | ⟨hr2, e6, hp2⟩
  · go_enter Try.func4, Try.ntmps4
    go_wp2_with (first | (go_at_call 8; refine (orchestrionlaw01_awake.calls k true _ EA.out).mono ?_; rintro e w1 ⟨rfl, hb1⟩; replace HB := HB.trans (hb1.mono HB.size); clear hb1) | (go_at_call 10; (with_reducible refine (tone_Freq.calls k rate p f0 _ E0.out).mono ?_); rintro e w1 ⟨rfl, hb1⟩; replace HB := HB.trans (hb1.below.mono HB.size); clear hb1) | (go_at_call 10; (with_reducible refine (tone_Freq.calls k rate q f1 _ E1.out).mono ?_); rintro e w1 ⟨rfl, hb1⟩; replace HB := HB.trans (hb1.below.mono HB.size); clear hb1) | (go_at_call 11; (with_reducible refine (tone_Period.calls k p p0 _ E2.out).mono ?_); rintro e w1 ⟨rfl, hb1⟩; replace HB := HB.trans (hb1.mono HB.size); clear hb1) | (go_at_call 11; (with_reducible refine (tone_Period.calls k q p1 _ E3.out).mono ?_); rintro e w1 ⟨rfl, hb1⟩; replace HB := HB.trans (hb1.mono HB.size); clear hb1) | (go_at_call 12; (with_reducible refine (tone_PitchOf.calls k p0 7679 _ E4.out).mono ?_); rintro e w1 ⟨rfl, hb1⟩; replace HB := HB.trans (hb1.mono HB.size); clear hb1) | (go_at_call 11; (with_reducible refine (tone_Period.calls k 7679 p0 _ E5.out).mono ?_); rintro e w1 ⟨rfl, hb1⟩; replace HB := HB.trans (hb1.mono HB.size); clear hb1))
    go_ret
    exact ⟨rfl, HB⟩
  · have E6 := Lib.hid e6
    clear e6
    have c : (r == 7679) = false := beq_eq_false_iff_ne.mpr (by omega)
    have c' : (r != 7679) = true := bne_iff_ne.mpr (by omega)
    go_enter Try.func4, Try.ntmps4
    go_wp2_with (first | (go_at_call 8; refine (orchestrionlaw01_awake.calls k true _ EA.out).mono ?_; rintro e w1 ⟨rfl, hb1⟩; replace HB := HB.trans (hb1.mono HB.size); clear hb1) | (go_at_call 10; (with_reducible refine (tone_Freq.calls k rate p f0 _ E0.out).mono ?_); rintro e w1 ⟨rfl, hb1⟩; replace HB := HB.trans (hb1.below.mono HB.size); clear hb1) | (go_at_call 10; (with_reducible refine (tone_Freq.calls k rate q f1 _ E1.out).mono ?_); rintro e w1 ⟨rfl, hb1⟩; replace HB := HB.trans (hb1.below.mono HB.size); clear hb1) | (go_at_call 11; (with_reducible refine (tone_Period.calls k p p0 _ E2.out).mono ?_); rintro e w1 ⟨rfl, hb1⟩; replace HB := HB.trans (hb1.mono HB.size); clear hb1) | (go_at_call 11; (with_reducible refine (tone_Period.calls k q p1 _ E3.out).mono ?_); rintro e w1 ⟨rfl, hb1⟩; replace HB := HB.trans (hb1.mono HB.size); clear hb1) | (go_at_call 12; (with_reducible refine (tone_PitchOf.calls k p0 r _ E4.out).mono ?_); rintro e w1 ⟨rfl, hb1⟩; replace HB := HB.trans (hb1.mono HB.size); clear hb1) | (go_at_call 11; (with_reducible refine (tone_Period.calls k r p0 _ E5.out).mono ?_); rintro e w1 ⟨rfl, hb1⟩; replace HB := HB.trans (hb1.mono HB.size); clear hb1) | (go_at_call 11; (with_reducible refine (tone_Period.calls k (r + 1) p2 _ E6.out).mono ?_); rintro e w1 ⟨rfl, hb1⟩; replace HB := HB.trans (hb1.mono HB.size); clear hb1))
    go_ret
    exact ⟨rfl, HB⟩
theorem orchestrionlaw01_ToneRises.walk (P : orchestrionlaw01_ToneRises.Pure) (a0 : Int) (a1 : Int) (a2 : Int) (w : World) (w0 : (Lit.int .i64 a0).wf = true) (w1 : (Lit.int .i64 a1).wf = true) (w2 : (Lit.int .i64 a2).wf = true) :
    Calls Try.prog 4 #[.int .i64 a0, .int .i64 a1, .int .i64 a2] w fun e w' => e = .returned (.bool true) ∧ Below w.heap.size w w' := by
  obtain ⟨k, ea, P⟩ := P
  by_cases h : a0 < -3840 ∨ 11519 < a1 ∨ a1 < a0 ∨ a2 < 1 ∨ 65535 < a2
  · exact rises_out k ea a0 a1 a2 h w
  · obtain ⟨f0, f1, p0, p1, e0, e1, e2, e3, g0, g1, g2, hin⟩ := P a0 a1 a2 (by omega) (by omega) (by omega) (by omega) (by omega)
    by_cases hp : a0 < 0 ∨ 7679 ≤ a0
    · exact rises_in k ea a0 a1 a2 f0 f1 p0 p1 (by omega) (by omega) (by omega) (by omega) (by omega) e0 e1 e2 e3 g0 g1 g2 hp w
    · obtain ⟨r, e4, e5, hr, he⟩ := hin (by omega) (by omega)
      rcases he with he | ⟨hr2, p2, e6, hp2⟩
      · exact rises_mid k ea a0 a1 a2 f0 f1 p0 p1 r (by omega) (by omega) (by omega) (by omega) (by omega) e0 e1 e2 e3 g0 g1 g2 (by omega) e4 e5 hr 0 (.inl he) w
      · exact rises_mid k ea a0 a1 a2 f0 f1 p0 p1 r (by omega) (by omega) (by omega) (by omega) (by omega) e0 e1 e2 e3 g0 g1 g2 (by omega) e4 e5 hr p2 (.inr ⟨hr2, e6, hp2⟩) w

end Go.Proofs.Ytmoomdmdcjokgaa.PG

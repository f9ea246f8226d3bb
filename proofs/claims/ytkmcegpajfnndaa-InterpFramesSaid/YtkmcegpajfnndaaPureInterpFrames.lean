/- At fraction 0 the value of eight taps by the kinds 0, 1 and 2 is the fourth tap, for all taps. No condition. -/
import Derived.Test.YtkmcegpajfnndaaPureInterpValue
import Derived.Test.YtkmcegpajfnndaaPGxf6
namespace Go.Proofs.Ytkmcegpajfnndaa.Pure
open Go.RowKit Go.Proofs.Ytkmcegpajfnndaa.PG Go.Proofs.YtkmcegpajfnndaaW.PrintWords Go.Proofs.YtkmcegpajfnndaaW.PrintLast
theorem val_frame {n : Nat} (hn : n ≤ 2) (l : List Int) : valL n 0 l = l.getD 3 0 := by
  rcases (by omega : n = 0 ∨ n = 1 ∨ n = 2) with rfl | rfl | rfl
  all_goals
    unfold valL val8
    rw [d8_8, a8_8]
    simp [wt, wts, fin8]
  all_goals omega
theorem frames_end {n : Nat} (hn : n ≤ 2) {l : List Int} (hl : l.length = 8) (hg : l.all tapOk = true) (k : Nat) :
    orchestrionlaw13_InterpFrames.l0 (k + 1) n l l 8 8 = some true := by
  simp only [orchestrionlaw13_InterpFrames.l0]
  rw [if_neg (by omega)]
  unfold interp_Value.f
  rw [if_neg (by omega), if_neg (by omega), if_pos hl, if_pos hg, if_neg (by omega), if_neg (by omega)]
  simp only [Option.bind_some]
  rw [if_pos trivial, if_pos (by omega), show (n : Int).toNat = n from rfl, show (0 : Int) / 256 = 0 from rfl, val_frame hn]
  simp [rd]
theorem frames_all {n : Nat} (hn : n ≤ 2) {l : List Int} (hl : l.length = 8) : ∀ d j : Nat, j + d = 8 → (∀ i, i < j → -32768 ≤ l.getD i 0 ∧ l.getD i 0 ≤ 32767) → ∀ k : Nat,
    orchestrionlaw13_InterpFrames.l0 (k + 1 + d) n l l 8 j = some true
  | 0, j, hj, hb, k => by
    obtain rfl : j = 8 := by omega
    refine frames_end hn hl ?_ k
    apply Classical.byContradiction
    intro hc
    obtain ⟨j, hj, h⟩ := not_ok hc
    exact h (hb j (by omega))
  | d + 1, j, hj, hb, k => by
    show orchestrionlaw13_InterpFrames.l0 (k + 1 + d + 1) n l l 8 j = _
    simp only [orchestrionlaw13_InterpFrames.l0]
    rw [if_pos (by omega), if_pos (by omega), if_pos (by omega), rd_nat]
    by_cases c1 : l.getD j 0 < -32768
    · rw [if_pos c1]
    rw [if_neg c1]
    by_cases c2 : l.getD j 0 > 32767
    · rw [if_pos c2]
    rw [if_neg c2, w64 (by omega) (by omega)]
    refine frames_all hn hl d (j + 1) (by omega) (fun i hi => ?_) k
    rcases Nat.lt_or_ge i j with h | h
    · exact hb i h
    · obtain rfl : i = j := by omega
      omega
theorem InterpFrames : orchestrionlaw13_InterpFrames.Pure := by
  intro a0 l1 _ _ _ _
  refine ⟨10, ?_⟩
  unfold orchestrionlaw13_InterpFrames.f
  by_cases c1 : a0 < 0
  · rw [if_pos c1]; rfl
  rw [if_neg c1]
  by_cases c2 : a0 > 2
  · rw [if_pos c2]; rfl
  rw [if_neg c2]
  by_cases c3 : l1.length = 8
  · rw [c3, show (((8 : Nat) : Int) != 8) = false from rfl]
    show orchestrionlaw13_InterpFrames.j0 (9 + 1) a0 l1 false = _
    simp only [orchestrionlaw13_InterpFrames.j0]
    rw [if_neg (by simp), c3]
    obtain ⟨n, hn, rfl⟩ : ∃ n : Nat, n ≤ 2 ∧ a0 = n := ⟨a0.toNat, by omega, by omega⟩
    exact frames_all hn c3 8 0 rfl (fun i hi => by omega) 0
  · rw [show (((l1.length : Nat) : Int) != 8) = true from bne_iff_ne.mpr (by omega)]; rfl
#print axioms InterpFrames
end Go.Proofs.Ytkmcegpajfnndaa.Pure

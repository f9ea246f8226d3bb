/- For every kind, list of up to 40 taps and fraction the program's value of the taps is the reference's, a refusal for a refusal. No condition. -/
import Derived.Test.YtkmcegpajfnndaaPureLib
namespace Go.Proofs.Ytkmcegpajfnndaa.Pure
open Go.RowKit Go.Proofs.Ytkmcegpajfnndaa.PG Go.Proofs.YtkmcegpajfnndaaW.PrintWords Go.Proofs.YtkmcegpajfnndaaW.PrintLast
theorem rd_nat (l : List Int) (j : Nat) : rd l (j : Int) = l.getD j 0 := by simp [rd]
theorem all_ok {l : List Int} (h : l.all tapOk = true) {j : Nat} (hj : j < l.length) : -32768 ≤ l.getD j 0 ∧ l.getD j 0 ≤ 32767 := by
  have := List.all_eq_true.mp h (l[j]) (List.getElem_mem hj)
  rw [tap_ok] at this
  simpa [List.getD_eq_getElem?_getD, List.getElem?_eq_getElem hj] using this
theorem not_ok {l : List Int} (h : ¬ l.all tapOk = true) : ∃ j, j < l.length ∧ ¬ (-32768 ≤ l.getD j 0 ∧ l.getD j 0 ≤ 32767) := by
  rw [List.all_eq_true] at h
  have ⟨x, hx, hb⟩ : ∃ x, x ∈ l ∧ ¬ tapOk x = true := by
    apply Classical.byContradiction
    intro hc
    exact h (fun x hx => Classical.byContradiction (fun hn => hc ⟨x, hx, hn⟩))
  obtain ⟨j, hj, rfl⟩ := List.getElem_of_mem hx
  refine ⟨j, hj, ?_⟩
  rw [tap_ok] at hb
  simpa [List.getD_eq_getElem?_getD, List.getElem?_eq_getElem hj] using hb
theorem value_good {n : Nat} (hn : n ≤ 4) {l : List Int} (hl : l.length = 8) (hg : ∀ j, j < 8 → -32768 ≤ l.getD j 0 ∧ l.getD j 0 ≤ 32767) {a2 : Int} : ∀ d j : Nat, j + d = 8 → ∀ k : Nat, 40 ≤ k →
    orchestrionref13_Value.l0 (k + d) n l a2 l 8 j = if a2 < 0 then some (0, 5) else if 65535 < a2 then some (0, 5) else some (valL n (a2 / 256) l, 0)
  | 0, j, hj, k, hk => by
    obtain rfl : j = 8 := by omega
    obtain ⟨k, rfl⟩ : ∃ m, k = m + 1 := ⟨k - 1, by omega⟩
    show orchestrionref13_Value.l0 (k + 1) n l a2 l 8 8 = _
    simp only [orchestrionref13_Value.l0]
    rw [if_neg (by omega)]
    by_cases c1 : a2 < 0
    · rw [if_pos c1, if_pos c1]
    · rw [if_neg c1, if_neg c1]
      by_cases c2 : 65535 < a2
      · rw [if_pos c2, if_pos c2]
      · rw [if_neg c2, if_neg c2, Int.tdiv_eq_ediv_of_nonneg (by omega), w64 (by omega) (by omega), mean_eq hn (by omega) (by omega) hl hg (by omega)]
        rfl
  | d + 1, j, hj, k, hk => by
    show orchestrionref13_Value.l0 (k + d + 1) n l a2 l 8 j = _
    have h := hg j (by omega)
    simp only [orchestrionref13_Value.l0]
    rw [if_pos (by omega), if_pos (by omega), if_pos (by omega), rd_nat, if_neg (by omega), if_neg (by omega), w64 (by omega) (by omega)]
    exact value_good hn hl hg d (j + 1) (by omega) k hk
theorem value_bad {n : Nat} {l : List Int} (hl : l.length = 8) {a2 : Int} : ∀ d j : Nat, j + d = 8 → (∃ i, j ≤ i ∧ i < 8 ∧ ¬ (-32768 ≤ l.getD i 0 ∧ l.getD i 0 ≤ 32767)) → ∀ k : Nat,
    orchestrionref13_Value.l0 (k + d) n l a2 l 8 j = some (0, 1)
  | 0, j, hj, hb, k => by
    obtain ⟨i, h1, h2, _⟩ := hb
    omega
  | d + 1, j, hj, hb, k => by
    show orchestrionref13_Value.l0 (k + d + 1) n l a2 l 8 j = _
    simp only [orchestrionref13_Value.l0]
    rw [if_pos (by omega), if_pos (by omega), if_pos (by omega), rd_nat]
    by_cases c1 : l.getD j 0 < -32768
    · rw [if_pos c1]
    · rw [if_neg c1]
      by_cases c2 : l.getD j 0 > 32767
      · rw [if_pos c2]
      · rw [if_neg c2, w64 (by omega) (by omega)]
        obtain ⟨i, h1, h2, h3⟩ := hb
        refine value_bad hl d (j + 1) (by omega) ⟨i, ?_, h2, h3⟩ k
        rcases Nat.lt_or_ge j i with h | h
        · exact h
        · obtain rfl : i = j := by omega
          exact absurd ⟨by omega, by omega⟩ h3
theorem value_eq (a0 : Int) (l : List Int) (a2 : Int) : orchestrionref13_Value.f 60 a0 l a2 = interp_Value.f a0 l a2 := by
  unfold orchestrionref13_Value.f interp_Value.f
  by_cases c1 : a0 < 0
  · rw [if_pos c1, if_pos c1]; rfl
  rw [if_neg c1, if_neg c1]
  by_cases c2 : 4 < a0
  · rw [if_pos c2, show decide (a0 > 4) = true from decide_eq_true c2]; rfl
  rw [if_neg c2, show decide (a0 > 4) = false from decide_eq_false c2]
  show orchestrionref13_Value.j0 (59 + 1) a0 l a2 false = _
  simp only [orchestrionref13_Value.j0]
  rw [if_neg (by simp)]
  by_cases c3 : l.length = 8
  · rw [if_pos c3, if_pos (by omega), c3]
    obtain ⟨n, hn, rfl⟩ : ∃ n : Nat, n ≤ 4 ∧ a0 = n := ⟨a0.toNat, by omega, by omega⟩
    by_cases c4 : l.all tapOk = true
    · rw [if_pos c4]
      exact value_good hn c3 (fun j hj => all_ok c4 (by omega)) 8 0 rfl 51 (by omega)
    · rw [if_neg c4]
      obtain ⟨j, hj, hb⟩ := not_ok c4
      exact value_bad c3 8 0 rfl ⟨j, by omega, by omega, hb⟩ 51
  · rw [if_neg c3, if_neg (by omega)]
theorem InterpValue : orchestrionlaw13_InterpValue.Pure := by
  intro a0 l1 a2 _ _ _ _ _
  refine ⟨60, ?_⟩
  unfold orchestrionlaw13_InterpValue.f
  by_cases c : (l1.length : Int) > 40
  · rw [if_pos c]
  rw [if_neg c, value_eq]
  have ⟨r, hr⟩ : ∃ r, interp_Value.f a0 l1 a2 = some r := by
    unfold interp_Value.f
    repeat (first | exact ⟨_, rfl⟩ | split)
  rw [hr]
  simp
#print axioms InterpValue
end Go.Proofs.Ytkmcegpajfnndaa.Pure

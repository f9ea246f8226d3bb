/- Where sounds begin, in plain Lean: rising multiples of the window; fewer by a greater ratio; none where all is silent. -/
import Derived.Test.YtfodpoccjdaaaaaReA
namespace Go.Proofs.Ytfodpoccjdaaaaa.SX
open Go.RowKit Go.Proofs.YtfodpoccjdaaaaaW.PrintLast Go.Proofs.Ytfodpoccjdaaaaa.TX
set_option linter.unusedVariables false
set_option linter.unusedSimpArgs false
def msm (F : Nat → Int) : Nat → Int
  | 0 => 0
  | k + 1 => msm F k + ab (F k)
theorem msm_bd {F : Nat → Int} {n : Nat} (h : FrB F n) : ∀ k, k ≤ n → 0 ≤ msm F k ∧ msm F k ≤ 32768 * k
  | 0, _ => by simp [msm]
  | k + 1, hk => by
    have h1 := msm_bd h k (by omega)
    have h2 := h k (by omega)
    have h3 := ab_nn (F k)
    have h4 : ab (F k) ≤ 32768 := by unfold ab; split <;> omega
    show 0 ≤ msm F k + ab (F k) ∧ msm F k + ab (F k) ≤ 32768 * ((k + 1 : Nat) : Int)
    omega
theorem msm_nn (F : Nat → Int) : ∀ k, 0 ≤ msm F k
  | 0 => Int.le_refl _
  | k + 1 => by
    have h1 := msm_nn F k
    have h2 := ab_nn (F k)
    show 0 ≤ msm F k + ab (F k)
    omega
theorem ab_pos {x : Int} : 0 < ab x ↔ x ≠ 0 := by unfold ab; split <;> omega
theorem msm_pos (F : Nat → Int) : ∀ k, 0 < msm F k ↔ ∃ i, i < k ∧ F i ≠ 0
  | 0 => by simp [msm]
  | k + 1 => by
    have h1 := msm_pos F k
    have h2 := msm_nn F k
    have h3 := ab_nn (F k)
    have h4 := @ab_pos (F k)
    constructor
    · intro h
      have h : 0 < msm F k + ab (F k) := h
      by_cases c : 0 < msm F k
      · obtain ⟨i, hi, hx⟩ := h1.1 c
        exact ⟨i, by omega, hx⟩
      · exact ⟨k, by omega, h4.1 (by omega)⟩
    · rintro ⟨i, hi, hx⟩
      show 0 < msm F k + ab (F k)
      by_cases c : i = k
      · subst c
        have := h4.2 hx
        omega
      · have := h1.2 ⟨i, by omega, hx⟩
        omega
/-- the length of window k -/
def wl (n wi k : Nat) : Nat := min wi (n - k * wi)
/-- the sum of window k's magnitudes, and of the one before -/
def ws (xs : Nat → Int) (n wi k : Nat) : Int := msm (win xs (k * wi)) (wl n wi k)
def lst (xs : Nat → Int) (n wi : Nat) : Nat → Int
  | 0 => 0
  | k + 1 => ws xs n wi k
def hit (xs : Nat → Int) (n wi : Nat) (r : Int) (k : Nat) : Bool := decide (0 < ws xs n wi k ∧ r * lst xs n wi k < ws xs n wi k * 100)
def outK (xs : Nat → Int) (n wi : Nat) (r : Int) (m : Nat) : List Nat := (List.range m).filter (hit xs n wi r)
theorem outK_succ (xs : Nat → Int) (n wi : Nat) (r : Int) (m : Nat) : outK xs n wi r (m + 1) = outK xs n wi r m ++ (if hit xs n wi r m then [m] else []) := by
  unfold outK
  rw [List.range_succ, List.filter_append]
  congr 1
  simp only [List.filter_cons, List.filter_nil]
theorem outK_len (xs : Nat → Int) (n wi : Nat) (r : Int) (m : Nat) : (outK xs n wi r m).length ≤ m := by
  have := List.length_filter_le (hit xs n wi r) (List.range m)
  simpa [outK] using this
/-- where sounds begin -/
def outs (xs : Nat → Int) (n wi : Nat) (r : Int) (m : Nat) : List Int := (outK xs n wi r m).map fun k => ((k * wi : Nat) : Int)
theorem outs_len (xs : Nat → Int) (n wi : Nat) (r : Int) (m : Nat) : (outs xs n wi r m).length = (outK xs n wi r m).length := by simp [outs]
theorem outs_yes {xs : Nat → Int} {n wi : Nat} {r : Int} {m : Nat} (h : hit xs n wi r m = true) : outs xs n wi r (m + 1) = outs xs n wi r m ++ [((m * wi : Nat) : Int)] := by
  unfold outs
  rw [outK_succ, h, if_pos rfl, List.map_append]
  rfl
theorem outs_no {xs : Nat → Int} {n wi : Nat} {r : Int} {m : Nat} (h : hit xs n wi r m = false) : outs xs n wi r (m + 1) = outs xs n wi r m := by
  unfold outs
  rw [outK_succ, h, if_neg (by decide), List.append_nil]
theorem lst_nn (xs : Nat → Int) (n wi k : Nat) : 0 ≤ lst xs n wi k := by
  cases k
  · exact Int.le_refl _
  · exact msm_nn _ _
theorem hit_low {xs : Nat → Int} {n wi : Nat} {lo hi : Int} (h : lo ≤ hi) {k : Nat} (hk : hit xs n wi hi k = true) : hit xs n wi lo k = true := by
  have h1 := of_decide_eq_true hk
  have h2 := Int.mul_le_mul_of_nonneg_right h (lst_nn xs n wi k)
  exact decide_eq_true ⟨h1.1, by omega⟩
/-- the facts that the law asks of two lists of places -/
theorem outs_at {xs : Nat → Int} {n wi : Nat} {r : Int} {m i : Nat} (hi : i < (outs xs n wi r m).length) : ∃ k : Nat, k < m ∧ hit xs n wi r k = true ∧ (outs xs n wi r m).getD i 0 = ((k * wi : Nat) : Int) ∧ (outK xs n wi r m)[i]? = some k := by
  rw [outs_len] at hi
  refine ⟨(outK xs n wi r m)[i], ?_, ?_, ?_, List.getElem?_eq_getElem hi⟩
  · have h := List.getElem_mem hi
    exact List.mem_range.1 (List.mem_filter.1 h).1
  · exact (List.mem_filter.1 (List.getElem_mem hi)).2
  · unfold outs
    simp [List.getD, hi]
theorem outs_in {xs : Nat → Int} {n wi : Nat} {lo hi : Int} (h : lo ≤ hi) {m i : Nat} (hi' : i < (outs xs n wi hi m).length) : ∃ j, j < (outs xs n wi lo m).length ∧ (outs xs n wi lo m).getD j 0 = (outs xs n wi hi m).getD i 0 := by
  obtain ⟨k, h1, h2, h3, _⟩ := outs_at hi'
  have hm : k ∈ outK xs n wi lo m := List.mem_filter.2 ⟨List.mem_range.2 h1, hit_low h h2⟩
  obtain ⟨j, hj, e⟩ := List.getElem_of_mem hm
  refine ⟨j, by rw [outs_len]; exact hj, ?_⟩
  rw [h3]
  unfold outs
  simp [List.getD, hj, e]
theorem outs_mod {xs : Nat → Int} {n wi : Nat} {r : Int} {m i : Nat} (hi : i < (outs xs n wi r m).length) : 0 ≤ (outs xs n wi r m).getD i 0 ∧ (outs xs n wi r m).getD i 0 % (wi : Int) = 0 ∧ (outs xs n wi r m).getD i 0 ≤ ((m * wi : Nat) : Int) := by
  obtain ⟨k, h1, _, h3, _⟩ := outs_at hi
  rw [h3]
  refine ⟨by omega, ?_, ?_⟩
  · rw [Int.natCast_mul]
    exact Int.mul_emod_left _ _
  · exact Int.ofNat_le.2 (Nat.mul_le_mul_right _ (by omega))
theorem outs_rise {xs : Nat → Int} {n wi : Nat} {r : Int} (hw : 1 ≤ wi) {m i : Nat} (hi : i + 1 < (outs xs n wi r m).length) : (outs xs n wi r m).getD i 0 < (outs xs n wi r m).getD (i + 1) 0 := by
  obtain ⟨k, _, _, h3, e3⟩ := outs_at (show i < (outs xs n wi r m).length by omega)
  obtain ⟨l, _, _, h4, e4⟩ := outs_at hi
  rw [h3, h4]
  have hp : (outK xs n wi r m).Pairwise (· < ·) := List.Pairwise.filter _ List.pairwise_lt_range
  rw [outs_len] at hi
  have hlt := List.pairwise_iff_getElem.1 hp i (i + 1) (by omega) hi (by omega)
  rw [List.getElem?_eq_getElem (by omega)] at e3 e4
  rw [Option.some.inj e3, Option.some.inj e4] at hlt
  exact Int.ofNat_lt.2 (Nat.mul_lt_mul_of_pos_right hlt (by omega))
theorem first_hit {xs : Nat → Int} {n wi : Nat} {r : Int} : ∀ m, (∃ k, k < m ∧ 0 < ws xs n wi k) → ∃ k, k < m ∧ hit xs n wi r k = true
  | 0, h => by obtain ⟨k, hk, _⟩ := h; omega
  | m + 1, h => by
    by_cases c : ∃ k, k < m ∧ 0 < ws xs n wi k
    · obtain ⟨k, hk, h2⟩ := first_hit (r := r) m c
      exact ⟨k, by omega, h2⟩
    · obtain ⟨k, hk, h2⟩ := h
      have hkm : k = m := by
        by_cases e : k < m
        · exact absurd ⟨k, e, h2⟩ c
        · omega
      subst hkm
      refine ⟨k, by omega, decide_eq_true ⟨h2, ?_⟩⟩
      have hz : lst xs n wi k = 0 := by
        cases k with
        | zero => rfl
        | succ j =>
          have h3 : ¬ 0 < ws xs n wi j := fun h4 => c ⟨j, by omega, h4⟩
          have h5 : 0 ≤ ws xs n wi j := msm_nn _ _
          show ws xs n wi j = 0
          omega
      rw [hz, Int.mul_zero]
      omega
/-- some place is found where some frame is not zero -/
theorem outs_some {xs : Nat → Int} {n wi : Nat} {r : Int} (hw : 1 ≤ wi) {m : Nat} (hm : n ≤ m * wi) : 0 < (outs xs n wi r m).length ↔ ∃ i, i < n ∧ xs i ≠ 0 := by
  rw [outs_len]
  constructor
  · intro h
    have hk := List.getElem_mem h
    have h2 := List.mem_filter.1 hk
    have h3 := (of_decide_eq_true h2.2).1
    obtain ⟨i, hi, hx⟩ := (msm_pos _ _).1 h3
    generalize (outK xs n wi r m)[0] = k at *
    unfold wl at hi
    exact ⟨k * wi + i, by omega, hx⟩
  · rintro ⟨i, hi, hx⟩
    have hdm := Nat.div_add_mod i wi
    have hmod := Nat.mod_lt i (show 0 < wi by omega)
    have hkm : i / wi < m := (Nat.div_lt_iff_lt_mul (by omega)).2 (by omega)
    have hpos : 0 < ws xs n wi (i / wi) := by
      refine (msm_pos _ _).2 ⟨i % wi, ?_, ?_⟩
      · unfold wl
        rw [Nat.mul_comm (i / wi) wi]
        omega
      · show xs (i / wi * wi + i % wi) ≠ 0
        rw [Nat.mul_comm (i / wi) wi, hdm]
        exact hx
    obtain ⟨k, hk, hh⟩ := first_hit (r := r) m ⟨_, hkm, hpos⟩
    have hmem : k ∈ outK xs n wi r m := List.mem_filter.2 ⟨List.mem_range.2 hk, hh⟩
    exact List.length_pos_of_mem hmem
end Go.Proofs.Ytfodpoccjdaaaaa.SX

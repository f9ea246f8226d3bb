/- The weights of the kinds 0 to 3 sum to one, and eight equal taps have their own value by all kinds; for all fractions and taps in range. No condition. -/
import Derived.Test.YtkmcegpajfnndaaPureInterpValue
import Derived.Test.YtkmcegpajfnndaaPGxf7
namespace Go.Proofs.Ytkmcegpajfnndaa.Pure
open Go.RowKit Go.Proofs.Ytkmcegpajfnndaa.PG Go.Proofs.YtkmcegpajfnndaaW.PrintWords Go.Proofs.YtkmcegpajfnndaaW.PrintLast
theorem wts_len : ∀ (n : Nat) (f : Int), (wts n f).length = 8
  | 0, _ => rfl
  | 1, _ => rfl
  | 2, _ => rfl
  | 3, _ => rfl
  | _ + 4, _ => rfl
theorem wt_get (n : Nat) (f : Int) (j : Nat) : (wts n f).getD j 0 = wt n f j := rfl
def sm (n : Nat) (f : Int) : Nat → Int
  | 0 => 0
  | j + 1 => sm n f j + wt n f j
theorem sm_8 (n : Nat) (f : Int) : sm n f 8 = 0 + wt n f 0 + wt n f 1 + wt n f 2 + wt n f 3 + wt n f 4 + wt n f 5 + wt n f 6 + wt n f 7 := rfl
theorem sm_bd {n : Nat} (hn : n ≤ 4) {f : Int} (h0 : 0 ≤ f) (h1 : f ≤ 255) : ∀ j : Nat, j ≤ 8 → -(67108864 * (j : Int)) ≤ sm n f j ∧ sm n f j ≤ 67108864 * (j : Int)
  | 0, _ => by simp [sm]
  | j + 1, h => by
    have := sm_bd hn h0 h1 j (by omega)
    have := wt_bd hn h0 h1 j (by omega)
    simp only [sm]
    omega
theorem sums_all : ∀ n : Nat, n < 4 → ∀ m : Nat, m < 256 → sm n m 8 = shl .i64 1 (shf n) ∧ 0 ≤ shf n := by decide +kernel
theorem sums4 : ∀ m : Nat, m < 256 → 1 ≤ sm 4 m 8 := by decide +kernel
theorem val_same {n : Nat} (hn : n ≤ 4) {f : Int} (h0 : 0 ≤ f) (h1 : f ≤ 255) {x : Int} (g0 : -32768 ≤ x) (g1 : x ≤ 32767) : valL n f [x, x, x, x, x, x, x, x] = x := by
  show val8 n f x x x x x x x x = x
  have q : ∀ j, j < 8 → (-4398046511104 ≤ x * wt n f j ∧ x * wt n f j ≤ 4398046511104) := fun j hj => prod_bd g0 g1 (wt_bd hn h0 h1 j hj)
  have q0 := q 0 (by omega); have q1 := q 1 (by omega); have q2 := q 2 (by omega); have q3 := q 3 (by omega)
  have q4 := q 4 (by omega); have q5 := q 5 (by omega); have q6 := q 6 (by omega); have q7 := q 7 (by omega)
  unfold val8
  rw [d8_8, a8_8]
  have e : x * wt n f 0 + x * wt n f 1 + x * wt n f 2 + x * wt n f 3 + x * wt n f 4 + x * wt n f 5 + x * wt n f 6 + x * wt n f 7 = x * (wt n f 0 + wt n f 1 + wt n f 2 + wt n f 3 + wt n f 4 + wt n f 5 + wt n f 6 + wt n f 7) := by
    simp only [Int.mul_add]
  have hs := sm_8 n f
  rw [Int.zero_add] at hs
  by_cases h4 : n = 4
  · subst h4
    have h := sums4 f.toNat (by omega)
    rw [Int.toNat_of_nonneg h0, hs] at h
    rw [fin_floor h (by omega), e, Int.mul_ediv_cancel _ (by omega)]
  · have h := sums_all n (by omega) f.toNat (by omega)
    rw [Int.toNat_of_nonneg h0, hs] at h
    rw [e, h.1]
    rcases (by omega : n = 0 ∨ n = 1 ∨ n = 2 ∨ n = 3) with rfl | rfl | rfl | rfl
    · rw [show shl .i64 1 (shf 0) = 1 from by decide +kernel]; simp [fin8]
    · rw [show shl .i64 1 (shf 1) = 256 from by decide +kernel]; simp only [fin8]; omega
    · rw [show shl .i64 1 (shf 2) = 33554432 from by decide +kernel]; simp only [fin8]; omega
    · rw [show shl .i64 1 (shf 3) = 131072 from by decide +kernel]; simp only [fin8]; omega
theorem value_same {n : Nat} (hn : n ≤ 4) {a1 x : Int} (h0 : 0 ≤ a1) (h1 : a1 ≤ 65535) (g0 : -32768 ≤ x) (g1 : x ≤ 32767) : interp_Value.f n [x, x, x, x, x, x, x, x] a1 = some (x, 0) := by
  unfold interp_Value.f
  rw [if_neg (by omega), if_neg (by omega), if_pos (show [x, x, x, x, x, x, x, x].length = 8 from rfl), if_pos (by simp [tapOk, g0, g1]), if_neg (by omega), if_neg (by omega), show (n : Int).toNat = n from rfl, val_same hn (by omega) (by omega) g0 g1]
theorem one_end {n : Nat} (hn : n ≤ 4) {a1 x : Int} (h0 : 0 ≤ a1) (h1 : a1 ≤ 65535) (g0 : -32768 ≤ x) (g1 : x ≤ 32767) {f : Int} (hf0 : 0 ≤ f) (hf1 : f ≤ 255) (k : Nat) :
    orchestrionlaw13_InterpOne.l0 (k + 1) n a1 x (wts n f) (shf n) 0 (sm n f 8) (wts n f) 8 8 = some true := by
  simp only [orchestrionlaw13_InterpOne.l0]
  rw [if_neg (by omega), if_pos trivial, wts_len, if_pos (show ((8 : Nat) : Int) = 8 from rfl), value_same hn h0 h1 g0 g1]
  by_cases h4 : n = 4
  · subst h4
    have h := sums4 f.toNat (by omega)
    rw [Int.toNat_of_nonneg hf0] at h
    rw [if_neg (by omega), if_pos (show ((4 : Nat) : Int) = 4 from rfl), if_pos (show shf 4 = -1 from rfl), if_neg (by omega)]
    simp
  · have h := sums_all n (by omega) f.toNat (by omega)
    rw [Int.toNat_of_nonneg hf0] at h
    rw [if_pos (by omega), if_pos h.2, if_pos h.1, if_neg (by omega)]
    simp
theorem one_all {n : Nat} (hn : n ≤ 4) {a1 x : Int} (h0 : 0 ≤ a1) (h1 : a1 ≤ 65535) (g0 : -32768 ≤ x) (g1 : x ≤ 32767) {f : Int} (hf0 : 0 ≤ f) (hf1 : f ≤ 255) : ∀ d j : Nat, j + d = 8 → ∀ k : Nat,
    orchestrionlaw13_InterpOne.l0 (k + 1 + d) n a1 x (wts n f) (shf n) 0 (sm n f j) (wts n f) 8 j = some true
  | 0, j, hj, k => by
    obtain rfl : j = 8 := by omega
    exact one_end hn h0 h1 g0 g1 hf0 hf1 k
  | d + 1, j, hj, k => by
    show orchestrionlaw13_InterpOne.l0 (k + 1 + d + 1) n a1 x (wts n f) (shf n) 0 (sm n f j) (wts n f) 8 j = some true
    have hb := sm_bd hn hf0 hf1 (j + 1) (by omega)
    have e : sm n f j + wt n f j = sm n f (j + 1) := rfl
    simp only [orchestrionlaw13_InterpOne.l0]
    rw [if_pos (by omega), if_pos (by omega), wts_len, if_pos (by omega), rd_nat, wt_get, e, w64 (by omega) (by omega), w64 (by omega) (by omega)]
    exact one_all hn h0 h1 g0 g1 hf0 hf1 d (j + 1) (by omega) k
theorem InterpOne : orchestrionlaw13_InterpOne.Pure := by
  intro a0 a1 a2 _ _ _
  refine ⟨10, ?_⟩
  unfold orchestrionlaw13_InterpOne.f
  by_cases c1 : a0 < 0
  · rw [if_pos c1]; rfl
  rw [if_neg c1]
  by_cases c2 : a0 > 4
  · rw [if_pos c2]; rfl
  rw [if_neg c2]
  by_cases c3 : a1 < 0
  · rw [if_pos c3]; rfl
  rw [if_neg c3]
  by_cases c4 : a1 > 65535
  · rw [if_pos c4]; rfl
  rw [if_neg c4]
  by_cases c5 : a2 < -32768
  · rw [if_pos c5]; rfl
  rw [if_neg c5]
  by_cases c6 : a2 > 32767
  · rw [show decide (a2 > 32767) = true from decide_eq_true c6]; rfl
  rw [show decide (a2 > 32767) = false from decide_eq_false c6]
  show orchestrionlaw13_InterpOne.j0 (9 + 1) a0 a1 a2 false = _
  simp only [orchestrionlaw13_InterpOne.j0]
  obtain ⟨n, hn, rfl⟩ : ∃ n : Nat, n ≤ 4 ∧ a0 = n := ⟨a0.toNat, by omega, by omega⟩
  rw [if_neg (by simp), Int.tdiv_eq_ediv_of_nonneg (by omega), w64 (by omega) (by omega)]
  unfold interp_Weights.f
  rw [if_neg (by omega), if_neg (by omega), if_neg (by omega), if_neg (by omega)]
  simp only [Option.bind_some]
  rw [show (n : Int).toNat = n from rfl, wts_len]
  exact one_all hn (by omega) (by omega) (by omega) (by omega) (by omega) (by omega) 8 0 rfl 0
#print axioms InterpOne
end Go.Proofs.Ytkmcegpajfnndaa.Pure

/- Plain lemmas on whole numbers for this seat's laws: division rounded down, sums of eight products, the reference's weights. No condition. -/
import Derived.Test.YtkmcegpajfnndaaPGxf5
namespace Go.Proofs.Ytkmcegpajfnndaa.Pure
open Go.RowKit Go.Proofs.Ytkmcegpajfnndaa.PG Go.Proofs.YtkmcegpajfnndaaW.PrintWords Go.Proofs.YtkmcegpajfnndaaW.PrintLast
theorem floor_mod {a b : Int} (hb : 0 < b) : (if a.tmod b < 0 then a.tdiv b - 1 else a.tdiv b) = a / b := by
  rcases Int.le_total 0 a with h | h
  · rw [Int.tmod_eq_emod_of_nonneg h, Int.tdiv_eq_ediv_of_nonneg h, if_neg (by have := Int.emod_nonneg a (Int.ne_of_gt hb); omega)]
  · obtain ⟨c, rfl⟩ : ∃ c, a = -c := ⟨-a, by omega⟩
    have hc : 0 ≤ c := by omega
    rw [Int.neg_tmod, Int.neg_tdiv, Int.tmod_eq_emod_of_nonneg hc, Int.tdiv_eq_ediv_of_nonneg hc]
    have h1 := Int.emod_nonneg c (Int.ne_of_gt hb)
    have h2 := Int.emod_lt_of_pos c hb
    have h3 := Int.mul_ediv_add_emod c b
    by_cases h0 : -(c % b) < 0
    · rw [if_pos h0]
      refine ((Int.ediv_emod_unique (r := b - c % b) (q := -(c / b) - 1) hb).2 ⟨?_, by omega, by omega⟩).1.symm
      rw [Int.mul_sub, Int.mul_neg, Int.mul_one]
      omega
    · rw [if_neg h0]
      refine ((Int.ediv_emod_unique (r := 0) (q := -(c / b)) hb).2 ⟨?_, by omega, by omega⟩).1.symm
      rw [Int.mul_neg]
      omega
theorem tdiv_le {a b : Int} : -a.natAbs ≤ a.tdiv b ∧ a.tdiv b ≤ a.natAbs := by
  have h := Int.natAbs_tdiv_le_natAbs a b
  omega
theorem w64 {x : Int} (h0 : -9223372036854775808 ≤ x) (h1 : x ≤ 9223372036854775807) : wrap64 x = x := by
  unfold wrap64
  omega
theorem fdiv {a b : Int} (hb : 0 < b) (h0 : -4611686018427387904 ≤ a) (h1 : a ≤ 4611686018427387904) : orchestrionref13_floordiv.f a b = some (a / b) := by
  unfold orchestrionref13_floordiv.f
  have := tdiv_le (a := a) (b := b)
  rw [if_neg (by omega), w64 (x := a.tdiv b) (by omega) (by omega), w64 (x := a.tdiv b - 1) (by omega) (by omega), ← floor_mod hb]
  split <;> rfl
theorem weight_all : ∀ n : Nat, n < 5 → ∀ m : Nat, m < 256 → ∀ i : Nat, i < 8 → orchestrionref13_Weight.f 20 n ((i : Int) - 3) m = some (wt n m i) := by decide +kernel
theorem weight_more {a b c v : Int} {k : Nat} (h : orchestrionref13_Weight.f k a b c = some v) : ∀ d, orchestrionref13_Weight.f (k + d) a b c = some v
  | 0 => h
  | d + 1 => orchestrionref13_Weight.mono a b c (k + d) v (weight_more h d)
theorem weight_at {n : Nat} (hn : n ≤ 4) {f : Int} (h0 : 0 ≤ f) (h1 : f ≤ 255) {i : Nat} (hi : i < 8) {k : Nat} (hk : 20 ≤ k) : orchestrionref13_Weight.f k n ((i : Int) - 3) f = some (wt n f i) := by
  have h := weight_all n (by omega) f.toNat (by omega) i hi
  rw [Int.toNat_of_nonneg h0] at h
  obtain ⟨d, rfl⟩ : ∃ d, k = 20 + d := ⟨k - 20, by omega⟩
  exact weight_more h d
theorem mean_round {n : Nat} (hn : n ≤ 4) {f : Int} (h0 : 0 ≤ f) (h1 : f ≤ 255) {l : List Int} (hl : l.length = 8) {j : Nat} (hj : j < 8) (g0 : -32768 ≤ l.getD j 0) (g1 : l.getD j 0 ≤ 32767) {k : Nat} (hk : 20 ≤ k) {s a : Int} (hs : -70368744177664 ≤ s ∧ s ≤ 70368744177664) (ha : -1073741824 ≤ a ∧ a ≤ 1073741824) :
    orchestrionref13_Mean.l0 (k + 1) n f s a l 8 j = orchestrionref13_Mean.l0 k n f (s + l.getD j 0 * wt n f j) (a + wt n f j) l 8 ((j : Int) + 1) := by
  have hb := wt_bd hn h0 h1 j hj
  have hp := prod_bd g0 g1 hb
  have hr : rd l j = l.getD j 0 := by simp [rd]
  simp only [orchestrionref13_Mean.l0]
  rw [if_pos (by omega), if_pos (by omega), if_pos (by omega), w64 (x := (j : Int) - 3) (by omega) (by omega), weight_at hn h0 h1 hj hk]
  simp only [Option.bind_some]
  rw [hr, Int.mul_comm (wt n f j), w64 (x := l.getD j 0 * wt n f j) (by omega) (by omega), w64 (by omega) (by omega), w64 (by omega) (by omega), w64 (by omega) (by omega)]
theorem fin_floor {s a : Int} (ha : 1 ≤ a) (hs : -70368744177664 ≤ s ∧ s ≤ 70368744177664) : fin8 4 s a = s / a := by
  have := tdiv_le (a := s) (b := a)
  show (if s.tmod a < 0 then wrap64 (s.tdiv a - 1) else s.tdiv a) = _
  rw [w64 (by omega) (by omega)]
  exact floor_mod (by omega)
theorem mean_end {n : Nat} (hn : n ≤ 4) {f : Int} {l : List Int} {k : Nat} {s a : Int} (hs : -70368744177664 ≤ s ∧ s ≤ 70368744177664) (ha : n = 4 → 1 ≤ a) :
    orchestrionref13_Mean.l0 (k + 1) n f s a l 8 8 = some (fin8 n s a) := by
  simp only [orchestrionref13_Mean.l0]
  rw [if_neg (by omega)]
  rcases (by omega : n = 0 ∨ n = 1 ∨ n = 2 ∨ n = 3 ∨ n = 4) with rfl | rfl | rfl | rfl | rfl
  · rw [if_neg (by omega), show orchestrionref13_Shift.f ((0 : Nat) : Int) = some 0 from rfl]
    simp only [Option.bind_some]
    rw [if_pos (by omega), show shl .i64 1 0 = 1 from by decide +kernel, fdiv (by omega) (by omega) (by omega)]
    simp [fin8]
  · rw [if_neg (by omega), show orchestrionref13_Shift.f ((1 : Nat) : Int) = some 8 from rfl]
    simp only [Option.bind_some]
    rw [if_pos (by omega), show shl .i64 1 8 = 256 from by decide +kernel, fdiv (by omega) (by omega) (by omega)]
    rfl
  · rw [if_neg (by omega), show orchestrionref13_Shift.f ((2 : Nat) : Int) = some 25 from rfl]
    simp only [Option.bind_some]
    rw [if_pos (by omega), show shl .i64 1 25 = 33554432 from by decide +kernel, fdiv (by omega) (by omega) (by omega)]
    rfl
  · rw [if_neg (by omega), show orchestrionref13_Shift.f ((3 : Nat) : Int) = some 17 from rfl]
    simp only [Option.bind_some]
    rw [if_pos (by omega), show shl .i64 1 17 = 131072 from by decide +kernel, fdiv (by omega) (by omega) (by omega)]
    rfl
  · rw [if_pos (by omega), fdiv (by have := ha rfl; omega) (by omega) (by omega), fin_floor (ha rfl) hs]
    rfl
theorem list8 {l : List Int} (h : l.length = 8) : ∃ x0 x1 x2 x3 x4 x5 x6 x7, l = [x0, x1, x2, x3, x4, x5, x6, x7] := by
  match l, h with
  | [y0, y1, y2, y3, y4, y5, y6, y7], _ => exact ⟨y0, y1, y2, y3, y4, y5, y6, y7, rfl⟩
theorem tap_ok {x : Int} : tapOk x = true ↔ -32768 ≤ x ∧ x ≤ 32767 := by simp [tapOk]
theorem mean_eq {n : Nat} (hn : n ≤ 4) {f : Int} (h0 : 0 ≤ f) (h1 : f ≤ 255) {l : List Int} (hl : l.length = 8) (hg : ∀ j, j < 8 → -32768 ≤ l.getD j 0 ∧ l.getD j 0 ≤ 32767) {k : Nat} (hk : 30 ≤ k) :
    orchestrionref13_Mean.f k n l f = some (valL n f l) := by
  obtain ⟨d, rfl⟩ : ∃ d, k = d + 9 := ⟨k - 9, by omega⟩
  have q : ∀ j, j < 8 → (-67108864 ≤ wt n f j ∧ wt n f j ≤ 67108864) ∧ (-4398046511104 ≤ l.getD j 0 * wt n f j ∧ l.getD j 0 * wt n f j ≤ 4398046511104) := fun j hj => ⟨wt_bd hn h0 h1 j hj, prod_bd (hg j hj).1 (hg j hj).2 (wt_bd hn h0 h1 j hj)⟩
  have q0 := q 0 (by omega); have q1 := q 1 (by omega); have q2 := q 2 (by omega); have q3 := q 3 (by omega)
  have q4 := q 4 (by omega); have q5 := q 5 (by omega); have q6 := q 6 (by omega); have q7 := q 7 (by omega)
  have hsum : n = 4 → 1 ≤ 0 + wt n f 0 + wt n f 1 + wt n f 2 + wt n f 3 + wt n f 4 + wt n f 5 + wt n f 6 + wt n f 7 := by
    rintro rfl
    have := by_fraction (p := fun f => 1 ≤ a8 (wt 4 f 0) (wt 4 f 1) (wt 4 f 2) (wt 4 f 3) (wt 4 f 4) (wt 4 f 5) (wt 4 f 6) (wt 4 f 7) 8) wt_sum4 h0 h1
    simp only [a8_8] at this
    omega
  clear q
  unfold orchestrionref13_Mean.f
  rw [hl]
  have r (j : Nat) (hj : j < 8) {k : Nat} (hk : 20 ≤ k) {s a : Int} (hs) (ha) := mean_round hn h0 h1 hl hj (hg j hj).1 (hg j hj).2 hk (s := s) (a := a) hs ha
  have r0 := r 0 (by omega) (k := d + 8) (by omega) (s := 0) (a := 0) (by omega) (by omega)
  have r1 := r 1 (by omega) (k := d + 7) (by omega) (s := 0 + l.getD 0 0 * wt n f 0) (a := 0 + wt n f 0) (by omega) (by omega)
  have r2 := r 2 (by omega) (k := d + 6) (by omega) (s := 0 + l.getD 0 0 * wt n f 0 + l.getD 1 0 * wt n f 1) (a := 0 + wt n f 0 + wt n f 1) (by omega) (by omega)
  have r3 := r 3 (by omega) (k := d + 5) (by omega) (s := 0 + l.getD 0 0 * wt n f 0 + l.getD 1 0 * wt n f 1 + l.getD 2 0 * wt n f 2) (a := 0 + wt n f 0 + wt n f 1 + wt n f 2) (by omega) (by omega)
  have r4 := r 4 (by omega) (k := d + 4) (by omega) (s := 0 + l.getD 0 0 * wt n f 0 + l.getD 1 0 * wt n f 1 + l.getD 2 0 * wt n f 2 + l.getD 3 0 * wt n f 3) (a := 0 + wt n f 0 + wt n f 1 + wt n f 2 + wt n f 3) (by omega) (by omega)
  have r5 := r 5 (by omega) (k := d + 3) (by omega) (s := 0 + l.getD 0 0 * wt n f 0 + l.getD 1 0 * wt n f 1 + l.getD 2 0 * wt n f 2 + l.getD 3 0 * wt n f 3 + l.getD 4 0 * wt n f 4) (a := 0 + wt n f 0 + wt n f 1 + wt n f 2 + wt n f 3 + wt n f 4) (by omega) (by omega)
  have r6 := r 6 (by omega) (k := d + 2) (by omega) (s := 0 + l.getD 0 0 * wt n f 0 + l.getD 1 0 * wt n f 1 + l.getD 2 0 * wt n f 2 + l.getD 3 0 * wt n f 3 + l.getD 4 0 * wt n f 4 + l.getD 5 0 * wt n f 5) (a := 0 + wt n f 0 + wt n f 1 + wt n f 2 + wt n f 3 + wt n f 4 + wt n f 5) (by omega) (by omega)
  have r7 := r 7 (by omega) (k := d + 1) (by omega) (s := 0 + l.getD 0 0 * wt n f 0 + l.getD 1 0 * wt n f 1 + l.getD 2 0 * wt n f 2 + l.getD 3 0 * wt n f 3 + l.getD 4 0 * wt n f 4 + l.getD 5 0 * wt n f 5 + l.getD 6 0 * wt n f 6) (a := 0 + wt n f 0 + wt n f 1 + wt n f 2 + wt n f 3 + wt n f 4 + wt n f 5 + wt n f 6) (by omega) (by omega)
  refine r0.trans (r1.trans (r2.trans (r3.trans (r4.trans (r5.trans (r6.trans (r7.trans ?_)))))))
  refine (mean_end hn (by omega) hsum).trans ?_
  unfold valL val8
  rw [d8_8, a8_8, Int.zero_add, Int.zero_add]
end Go.Proofs.Ytkmcegpajfnndaa.Pure

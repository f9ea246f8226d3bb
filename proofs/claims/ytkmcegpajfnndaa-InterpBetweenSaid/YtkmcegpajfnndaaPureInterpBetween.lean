/- The values of the kinds 0, 1, 3 and 4 lie between the least and the greatest tap whose weight is not 0; for all taps and fractions in range. No condition. -/
import Derived.Test.YtkmcegpajfnndaaPureInterpOne
import Derived.Test.YtkmcegpajfnndaaPGxf8
namespace Go.Proofs.Ytkmcegpajfnndaa.Pure
open Go.RowKit Go.Proofs.Ytkmcegpajfnndaa.PG Go.Proofs.YtkmcegpajfnndaaW.PrintWords Go.Proofs.YtkmcegpajfnndaaW.PrintLast Go.Proofs.YtkmcegpajfnndaaW.PrintMore
theorem wt_pos_all : ∀ n : Nat, n < 5 → n ≠ 2 → ∀ m : Nat, m < 256 → ∀ i : Nat, i < 8 → 0 ≤ wt n m i := by decide +kernel
theorem fin_quo {n : Nat} (hn : n ≤ 4) (h2 : n ≠ 2) {f : Int} (h0 : 0 ≤ f) (h1 : f ≤ 255) {s : Int} (hs : -70368744177664 ≤ s ∧ s ≤ 70368744177664) : fin8 n s (sm n f 8) = s / sm n f 8 ∧ 1 ≤ sm n f 8 := by
  by_cases h4 : n = 4
  · subst h4
    have h := sums4 f.toNat (by omega)
    rw [Int.toNat_of_nonneg h0] at h
    exact ⟨fin_floor h hs, h⟩
  · have h := sums_all n (by omega) f.toNat (by omega)
    rw [Int.toNat_of_nonneg h0] at h
    rw [h.1]
    rcases (by omega : n = 0 ∨ n = 1 ∨ n = 3) with rfl | rfl | rfl
    · rw [show shl .i64 1 (shf 0) = 1 from by decide +kernel]; simp [fin8]
    · rw [show shl .i64 1 (shf 1) = 256 from by decide +kernel]; simp [fin8]
    · rw [show shl .i64 1 (shf 3) = 131072 from by decide +kernel]; simp [fin8]
theorem term_ge {w x low : Int} (hw : 0 ≤ w) (h : w ≠ 0 → low ≤ x) : low * w ≤ x * w := by
  by_cases c : w = 0
  · subst c; simp
  · exact Int.mul_le_mul_of_nonneg_right (h c) hw
theorem val_between {n : Nat} (hn : n ≤ 4) (h2 : n ≠ 2) {f : Int} (h0 : 0 ≤ f) (h1 : f ≤ 255) {l : List Int} (hg : ∀ j, j < 8 → -32768 ≤ l.getD j 0 ∧ l.getD j 0 ≤ 32767) {low high : Int}
    (hb : ∀ i, i < 8 → wt n f i ≠ 0 → low ≤ l.getD i 0 ∧ l.getD i 0 ≤ high) : low ≤ valL n f l ∧ valL n f l ≤ high := by
  have q : ∀ j, j < 8 → (-4398046511104 ≤ l.getD j 0 * wt n f j ∧ l.getD j 0 * wt n f j ≤ 4398046511104) := fun j hj => prod_bd (hg j hj).1 (hg j hj).2 (wt_bd hn h0 h1 j hj)
  have p : ∀ j, j < 8 → low * wt n f j ≤ l.getD j 0 * wt n f j ∧ l.getD j 0 * wt n f j ≤ high * wt n f j := fun j hj => by
    have hw := wt_pos_all n (by omega) h2 f.toNat (by omega) j hj
    rw [Int.toNat_of_nonneg h0] at hw
    exact ⟨term_ge hw (fun c => (hb j hj c).1), term_ge hw (fun c => (hb j hj c).2)⟩
  have q0 := q 0 (by omega); have q1 := q 1 (by omega); have q2 := q 2 (by omega); have q3 := q 3 (by omega)
  have q4 := q 4 (by omega); have q5 := q 5 (by omega); have q6 := q 6 (by omega); have q7 := q 7 (by omega)
  have p0 := p 0 (by omega); have p1 := p 1 (by omega); have p2 := p 2 (by omega); have p3 := p 3 (by omega)
  have p4 := p 4 (by omega); have p5 := p 5 (by omega); have p6 := p 6 (by omega); have p7 := p 7 (by omega)
  have hs := sm_8 n f
  rw [Int.zero_add] at hs
  unfold valL val8
  rw [d8_8, a8_8, ← hs]
  have ⟨e, h⟩ := fin_quo hn h2 h0 h1 (s := l.getD 0 0 * wt n f 0 + l.getD 1 0 * wt n f 1 + l.getD 2 0 * wt n f 2 + l.getD 3 0 * wt n f 3 + l.getD 4 0 * wt n f 4 + l.getD 5 0 * wt n f 5 + l.getD 6 0 * wt n f 6 + l.getD 7 0 * wt n f 7) (by omega)
  rw [e]
  refine ⟨Int.le_ediv_of_mul_le (by omega) ?_, Int.ediv_le_of_le_mul (by omega) ?_⟩
  · rw [hs]; simp only [Int.mul_add]; omega
  · rw [hs]; simp only [Int.mul_add]; omega
theorem value_at {n : Nat} (hn : n ≤ 4) {l : List Int} (hl : l.length = 8) (hg : ∀ j, j < 8 → -32768 ≤ l.getD j 0 ∧ l.getD j 0 ≤ 32767) {a2 : Int} (h0 : 0 ≤ a2) (h1 : a2 ≤ 65535) : interp_Value.f n l a2 = some (valL n (a2 / 256) l, 0) := by
  unfold interp_Value.f
  have ha : l.all tapOk = true := by
    apply Classical.byContradiction
    intro hc
    obtain ⟨j, hj, h⟩ := not_ok hc
    exact h (hg j (by omega))
  rw [if_neg (by omega), if_neg (by omega), if_pos hl, if_pos ha, if_neg (by omega), if_neg (by omega)]
  rfl
theorem between_end {n : Nat} (hn : n ≤ 4) (h2 : n ≠ 2) {l : List Int} (hl : l.length = 8) (hg : ∀ j, j < 8 → -32768 ≤ l.getD j 0 ∧ l.getD j 0 ≤ 32767) {a2 : Int} (h0 : 0 ≤ a2) (h1 : a2 ≤ 65535) {low high : Int}
    (hb : ∀ i, i < 8 → wt n (a2 / 256) i ≠ 0 → low ≤ l.getD i 0 ∧ l.getD i 0 ≤ high) (k : Nat) : orchestrionlaw13_InterpBetween.l0 (k + 1) n l a2 (wts n (a2 / 256)) low high l 8 8 = some true := by
  simp only [orchestrionlaw13_InterpBetween.l0]
  have h := val_between hn h2 (by omega) (by omega) hg hb
  rw [if_neg (by omega), value_at hn hl hg h0 h1]
  simp only [Option.bind_some]
  rw [if_pos trivial, if_pos h.1, decide_eq_true h.2]
theorem between_all {n : Nat} (hn : n ≤ 4) (h2 : n ≠ 2) {l : List Int} (hl : l.length = 8) {a2 : Int} (h0 : 0 ≤ a2) (h1 : a2 ≤ 65535) : ∀ d j : Nat, j + d = 8 → ∀ low high : Int, (∀ i, i < j → (-32768 ≤ l.getD i 0 ∧ l.getD i 0 ≤ 32767) ∧ (wt n (a2 / 256) i ≠ 0 → low ≤ l.getD i 0 ∧ l.getD i 0 ≤ high)) → ∀ k : Nat,
    orchestrionlaw13_InterpBetween.l0 (k + 1 + 2 * d) n l a2 (wts n (a2 / 256)) low high l 8 j = some true
  | 0, j, hj, low, high, hb, k => by
    obtain rfl : j = 8 := by omega
    exact between_end hn h2 hl (fun j hj => (hb j hj).1) h0 h1 (fun j hj => (hb j hj).2) k
  | d + 1, j, hj, low, high, hb, k => by
    show orchestrionlaw13_InterpBetween.l0 (k + 1 + 2 * d + 1 + 1) n l a2 (wts n (a2 / 256)) low high l 8 j = some true
    simp only [orchestrionlaw13_InterpBetween.l0, orchestrionlaw13_InterpBetween.j2]
    rw [if_pos (by omega), if_pos (by omega), if_pos (by omega), rd_nat]
    by_cases c1 : l.getD j 0 < -32768
    · rw [if_pos c1, if_pos trivial]
    rw [if_neg c1]
    by_cases c2 : l.getD j 0 > 32767
    · rw [if_pos (decide_eq_true c2)]
    rw [if_neg (by simpa using c2), wts_len, if_pos (show ((8 : Nat) : Int) = 8 from rfl), if_pos (by omega), if_pos (by omega), rd_nat, wt_get, w64 (by omega) (by omega)]
    have old : ∀ {lo hi : Int}, lo ≤ low → high ≤ hi → (wt n (a2 / 256) j ≠ 0 → lo ≤ l.getD j 0 ∧ l.getD j 0 ≤ hi) → ∀ i, i < j + 1 → (-32768 ≤ l.getD i 0 ∧ l.getD i 0 ≤ 32767) ∧ (wt n (a2 / 256) i ≠ 0 → lo ≤ l.getD i 0 ∧ l.getD i 0 ≤ hi) := by
      intro lo hi hlo hhi hj' i hi'
      rcases Nat.lt_or_ge i j with h | h
      · exact ⟨(hb i h).1, fun c => ⟨Int.le_trans hlo ((hb i h).2 c).1, Int.le_trans ((hb i h).2 c).2 hhi⟩⟩
      · obtain rfl : i = j := by omega
        exact ⟨by omega, hj'⟩
    by_cases c3 : wt n (a2 / 256) j = 0
    · rw [if_pos c3]
      exact between_all hn h2 hl h0 h1 d (j + 1) (by omega) low high (old (by omega) (by omega) (fun c => absurd c3 c)) k
    · rw [if_neg c3]
      refine between_all hn h2 hl h0 h1 d (j + 1) (by omega) _ _ (old ?_ ?_ (fun _ => ⟨?_, ?_⟩)) k
      all_goals first | (unfold mn; omega) | (unfold mx; omega)
theorem InterpBetween : orchestrionlaw13_InterpBetween.Pure := by
  intro a0 l1 a2 _ _ _ _ _
  refine ⟨19, ?_⟩
  unfold orchestrionlaw13_InterpBetween.f
  by_cases c1 : a0 < 0
  · rw [if_pos c1]; rfl
  rw [if_neg c1]
  by_cases c2 : a0 = 2
  · rw [if_pos c2]; rfl
  rw [if_neg c2]
  by_cases c3 : a0 > 4
  · rw [if_pos c3]; rfl
  rw [if_neg c3]
  by_cases c4 : l1.length = 8
  · rw [if_pos (by omega)]
    by_cases c5 : a2 < 0
    · rw [if_pos c5]; rfl
    rw [if_neg c5]
    by_cases c6 : a2 > 65535
    · rw [show decide (a2 > 65535) = true from decide_eq_true c6]; rfl
    rw [show decide (a2 > 65535) = false from decide_eq_false c6]
    show orchestrionlaw13_InterpBetween.j0 (18 + 1) a0 l1 a2 false = _
    simp only [orchestrionlaw13_InterpBetween.j0]
    obtain ⟨n, hn, rfl⟩ : ∃ n : Nat, n ≤ 4 ∧ a0 = n := ⟨a0.toNat, by omega, by omega⟩
    rw [if_neg (by simp), Int.tdiv_eq_ediv_of_nonneg (by omega), w64 (by omega) (by omega)]
    unfold interp_Weights.f
    rw [if_neg (by omega), if_neg (by omega), if_neg (by omega), if_neg (by omega)]
    simp only [Option.bind_some]
    rw [show (n : Int).toNat = n from rfl, c4]
    exact between_all hn (by omega) c4 (by omega) (by omega) 8 0 rfl _ _ (fun i hi => by omega) 1
  · rw [if_neg (by omega)]; rfl
#print axioms InterpBetween
end Go.Proofs.Ytkmcegpajfnndaa.Pure

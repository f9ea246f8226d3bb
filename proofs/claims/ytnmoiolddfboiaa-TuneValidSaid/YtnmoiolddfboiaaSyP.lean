/- A sample at another rate: what it is; loops scaled. -/
import Derived.Test.YtnmoiolddfboiaaSyN
namespace Go.Proofs.Ytnmoiolddfboiaa.SX
open Go.RowKit Go.Proofs.YtnmoiolddfboiaaW.PrintLast Go.Proofs.Ytnmoiolddfboiaa.TX Go.Proofs.Ytnmoiolddfboiaa.Cu
set_option linter.unusedVariables false
set_option linter.unusedSimpArgs false
theorem mulN {a b A B : Int} (ha : 0 ≤ a ∧ a ≤ A) (hb : 0 ≤ b ∧ b ≤ B) : 0 ≤ a * b ∧ a * b ≤ A * B :=
  ⟨Int.mul_nonneg ha.1 hb.1, Int.le_trans (Int.mul_le_mul_of_nonneg_right ha.2 hb.1) (Int.mul_le_mul_of_nonneg_left hb.2 (by omega))⟩
/-- a loop at another rate -/
def sclK (k a b num den : Int) : Int × Int × Int := if k = 0 ∨ b * num / den ≤ a * num / den then (0, 0, 0) else (k, a * num / den, b * num / den)
/-- what a product divided is, with all its wraps -/
theorem quo_facts {a num den A : Int} (hA : A ≤ 100000000) (ha : 0 ≤ a ∧ a ≤ A) (hn : 1 ≤ num ∧ num ≤ 10000) (hd : 1 ≤ den ∧ den ≤ 10000) :
    wrap64 (a * num) = a * num ∧ (a * num).tdiv den = a * num / den ∧ wrap64 (a * num / den) = a * num / den ∧ 0 ≤ a * num / den ∧ a * num / den ≤ 1000000000000 := by
  have h := mulN (a := a) (b := num) (A := 100000000) (B := 10000) ⟨ha.1, by omega⟩ ⟨by omega, hn.2⟩
  have q0 : 0 ≤ a * num / den := Int.ediv_nonneg h.1 (by omega)
  have q1 : a * num / den ≤ a * num := Int.ediv_le_self _ h.1
  exact ⟨wrap_in (by omega) (by omega), Int.tdiv_eq_ediv_of_nonneg h.1, wrap_in (by omega) (by omega), q0, by omega⟩
set_option maxHeartbeats 4000000 in
set_option maxRecDepth 100000 in
theorem scaled_any (k a b num den : Int) (ha : 0 ≤ a ∧ a ≤ 4096) (hb : 0 ≤ b ∧ b ≤ 4096) (hn : 1 ≤ num ∧ num ≤ 10000) (hd : 1 ≤ den ∧ den ≤ 10000) (w : World) : Calls Try.prog 89 #[iv k, iv a, iv b, iv num, iv den] w fun e w' => e = .returned (.tuple #[iv (sclK k a b num den).1, iv (sclK k a b num den).2.1, iv (sclK k a b num den).2.2]) ∧ Below w.heap.size w w' := by
  obtain ⟨f1, f2, f3, _, _⟩ := quo_facts (A := 4096) (by omega) ha hn hd
  obtain ⟨g1, g2, g3, _, _⟩ := quo_facts (A := 4096) (by omega) hb hn hd
  have hz : (den = 0) = False := eq_false (by omega)
  obtain ⟨p, hp⟩ : ∃ p, a * num / den = p := ⟨_, rfl⟩
  obtain ⟨q, hq⟩ : ∃ q, b * num / den = q := ⟨_, rfl⟩
  have e0 : sclK k a b num den = if k = 0 ∨ q ≤ p then (0, 0, 0) else (k, p, q) := by unfold sclK; rw [hp, hq]
  rw [hp] at f2 f3
  rw [hq] at g2 g3
  rw [e0]
  clear e0 hp hq ha hb hn hd
  by_cases h0 : k = 0
  · have e1 : (k == 0) = true := by simp [h0]
    rw [if_pos (.inl h0)]
    clear h0
    go_enter Try.func89, Try.ntmps89
    go_wp2
    go_quiet (fail)
    go_wp2
    go_ret3
    exact ⟨rfl, by first | exact (Below.refl _ _) | exact bdN (Below.refl _ _) _⟩
  · have e1 : (k == 0) = false := by simp [h0]
    by_cases h1 : q ≤ p
    · have d1 : decide (q ≤ p) = true := decide_eq_true h1
      rw [if_pos (.inr h1)]
      clear h0 h1
      go_enter Try.func89, Try.ntmps89
      go_wp2
      go_quiet (fail)
      go_wp2
      go_ret3
      exact ⟨rfl, by first | exact (Below.refl _ _) | exact bdN (Below.refl _ _) _⟩
    · have d1 : decide (q ≤ p) = false := decide_eq_false h1
      rw [if_neg (by omega)]
      clear h0 h1
      go_enter Try.func89, Try.ntmps89
      go_wp2
      go_quiet (fail)
      go_wp2
      go_ret3
      exact ⟨by first | rfl | (rw [f3, g3]; rfl), by first | exact (Below.refl _ _) | exact bdN (Below.refl _ _) _⟩
/-- the frames and the bits alone -/
def plainS (s : S) : S := ⟨ByteArray.empty, s.a2, 0, 0, 0, 0, 0, 0, 0, 0, 0, 0⟩
def rateR (q : Int) : Int := if q < 1 then 1 else if 65535 < q then 65535 else q
def rsmS (s : S) (num den : Int) : S := ⟨s.nm, s.a2, rateR (s.a3 * num / den), s.a4, s.a5, s.a6, (sclK s.a7 s.a8 s.a9 num den).1, (sclK s.a7 s.a8 s.a9 num den).2.1, (sclK s.a7 s.a8 s.a9 num den).2.2, (sclK s.a10 s.a11 s.a12 num den).1, (sclK s.a10 s.a11 s.a12 num den).2.1, (sclK s.a10 s.a11 s.a12 num den).2.2⟩
def rsX (num den : Int) (i : Nat) : Int := (i : Int) * den * 65536 / num
def rsC (num den : Int) (i : Nat) : Cur := ⟨rsX num den i / 65536, rsX num den i % 65536, false, false⟩
/-- a frame at another rate, ahead of the clipping -/
def rsV (s : S) (n : Nat) (xs : Nat → Int) (num den : Int) (K i : Nat) : Int := sndM (plainS s) n xs (rsC num den i) false K
def rsW (s : S) (n : Nat) (xs : Nat → Int) (num den : Int) (K i : Nat) : Int := if s.a2 = 8 then (rsV s n xs num den K i + 128) / 256 else rsV s n xs num den K i
def rsmF (s : S) (n : Nat) (xs : Nat → Int) (num den : Int) (K i : Nat) : Int := clp (hb s.a2) (rsW s n xs num den K i)
theorem v8_bd {K : Nat} (hK : K ≤ 4) {f : Int} (d0 : 0 ≤ f) (d1 : f ≤ 255) (F : Nat → Int) (hF : ∀ i, -32768 ≤ F i ∧ F i ≤ 32767) : -100000000000000 ≤ v8 K f F ∧ v8 K f F ≤ 100000000000000 := by
  have hs := sm8_bd (fun i hi => wt_bd (k := K) hK d0 d1 i hi) hF 8 (Nat.le_refl _)
  by_cases h4 : K = 4
  · subst h4
    have hp := al8_pos d0 d1
    rw [v8_4 d0 d1 F hF]
    generalize sm8 (wt 4 f) F 8 = s at *
    generalize al8 (wt 4 f) 8 = a at *
    rcases Int.lt_or_le s 0 with ha | ha
    · obtain ⟨m, rfl⟩ : ∃ m, s = -m := ⟨-s, by omega⟩
      have b0 : -m ≤ -m / a := Int.le_ediv_of_mul_le (by omega) (by
        have := Int.mul_le_mul_of_nonneg_left (show (1 : Int) ≤ a by omega) (show (0 : Int) ≤ m by omega)
        rw [Int.neg_mul]
        omega)
      have b1 : -m / a ≤ 0 := Int.ediv_le_of_le_mul (by omega) (by omega)
      omega
    · have b0 : 0 ≤ s / a := Int.ediv_nonneg ha (by omega)
      have b1 : s / a ≤ s := Int.ediv_le_self _ ha
      omega
  · rw [v8_fin]
    generalize sm8 (wt K f) F 8 = s at *
    generalize al8 (wt K f) 8 = a at *
    rcases (by omega : K = 0 ∨ K = 1 ∨ K = 2 ∨ K = 3) with rfl | rfl | rfl | rfl
    · show _ ≤ s ∧ s ≤ _; omega
    · show _ ≤ s / 256 ∧ s / 256 ≤ _; omega
    · show _ ≤ s / 33554432 ∧ s / 33554432 ≤ _; omega
    · show _ ≤ s / 131072 ∧ s / 131072 ≤ _; omega
/-- a place lies within the frames -/
theorem rs_place {num den : Int} (hn : 1 ≤ num ∧ num ≤ 10000) (hd : 1 ≤ den ∧ den ≤ 10000) {n m j : Nat} (hm : (n : Int) * num / den = m) (hm4 : m ≤ 4096) (hj : j < m) :
    wrap64 ((j : Int) * den) = (j : Int) * den ∧ wrap64 ((j : Int) * den * 65536) = (j : Int) * den * 65536 ∧ ((j : Int) * den * 65536).tdiv num = rsX num den j ∧ wrap64 (rsX num den j) = rsX num den j ∧
    (rsX num den j).tdiv 65536 = rsX num den j / 65536 ∧ (rsX num den j).tmod 65536 = rsX num den j % 65536 ∧ wrap64 (rsX num den j / 65536) = rsX num den j / 65536 ∧ wrap64 (rsX num den j % 65536) = rsX num den j % 65536 ∧
    0 ≤ rsX num den j / 65536 ∧ rsX num den j / 65536 < n ∧ 0 ≤ rsX num den j % 65536 ∧ rsX num den j % 65536 ≤ 65535 := by
  have h1 := mulN (a := (j : Int)) (b := den) (A := 4096) (B := 10000) ⟨by omega, by omega⟩ ⟨by omega, hd.2⟩
  have x0 : 0 ≤ rsX num den j := Int.ediv_nonneg (by omega) (by omega)
  have x1 : rsX num den j ≤ (j : Int) * den * 65536 := Int.ediv_le_self _ (by omega)
  have q1 : (m : Int) * den ≤ n * num := by rw [← hm]; exact Int.ediv_mul_le _ (by omega)
  have q2 : ((j : Int) + 1) * den ≤ (m : Int) * den := Int.mul_le_mul_of_nonneg_right (by omega) (by omega)
  rw [Int.add_mul, Int.one_mul] at q2
  have x2 : rsX num den j < (n : Int) * 65536 := by
    refine Int.ediv_lt_of_lt_mul (by omega) ?_
    have : (n : Int) * 65536 * num = (n : Int) * num * 65536 := by rw [Int.mul_assoc, Int.mul_comm 65536 num, ← Int.mul_assoc]
    rw [this]
    omega
  have t1 : ((j : Int) * den * 65536).tdiv num = rsX num den j := Int.tdiv_eq_ediv_of_nonneg (by omega)
  have t2 : (rsX num den j).tdiv 65536 = rsX num den j / 65536 := Int.tdiv_eq_ediv_of_nonneg x0
  have t3 : (rsX num den j).tmod 65536 = rsX num den j % 65536 := Int.tmod_eq_emod_of_nonneg x0
  generalize rsX num den j = x at *
  exact ⟨wrap_in (by omega) (by omega), wrap_in (by omega) (by omega), t1, wrap_in (by omega) (by omega), t2, t3, wrap_in (by omega) (by omega), wrap_in (by omega) (by omega), by omega, by omega, by omega, by omega⟩
theorem plain_loops {s : S} {n : Nat} (hn : n ≤ 4096) : Loops (plainS s) n := by
  exact ⟨hn, .inl rfl, .inl rfl, fun _ => ⟨rfl, rfl⟩⟩
theorem plain_tame {s : S} {n : Nat} {xs : Nat → Int} (h : vS s n xs = true) : Tame (plainS s) n xs := by
  have h2 : Tame s n xs := vS_tame h
  exact h2
theorem plain_frames {s : S} {n : Nat} {xs : Nat → Int} (h : vS s n xs = true) : Frames (plainS s) n xs := by
  have h2 : Frames s n xs := vS_frames h
  exact h2
theorem rsV_bd {s : S} {n : Nat} {xs : Nat → Int} (h : vS s n xs = true) (num den : Int) (K i : Nat) (hK : K ≤ 4) : -100000000000000 ≤ rsV s n xs num den K i ∧ rsV s n xs num den K i ≤ 100000000000000 := by
  unfold rsV sndM
  refine v8_bd hK ?_ ?_ _ (taps_bd (plain_tame h) _ _ _)
  · show 0 ≤ rsX num den i % 65536 / 256
    omega
  · show rsX num den i % 65536 / 256 ≤ 255
    omega
end Go.Proofs.Ytnmoiolddfboiaa.SX

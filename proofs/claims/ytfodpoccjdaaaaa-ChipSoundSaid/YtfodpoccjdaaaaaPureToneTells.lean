/- Plain lemmas for the tone's laws: the powers, the exponents, floors of quotients. No condition. -/
import Derived.Test.YtfodpoccjdaaaaaPGm
namespace Go.Proofs.Ytfodpoccjdaaaaa.Pure
open Go.RowKit Go.Proofs.Ytfodpoccjdaaaaa.PG Go.Proofs.YtfodpoccjdaaaaaW.PrintWords Go.Proofs.YtfodpoccjdaaaaaW.PrintLast Go.Proofs.YtfodpoccjdaaaaaW.PrintMore
theorem w64 {x : Int} (h0 : -9223372036854775808 ≤ x) (h1 : x ≤ 9223372036854775807) : wrap64 x = x := by
  unfold wrap64
  omega
def R : Nat → Int
  | 0 => 1099511627776
  | i + 1 => R i + R i * 3878110 / 4294967296
theorem R_lo : ∀ i, 1099511627776 ≤ R i
  | 0 => by decide
  | i + 1 => by
    have := R_lo i
    simp only [R]
    omega
theorem R_mono {i : Nat} : ∀ d, R i ≤ R (i + d)
  | 0 => Int.le_refl _
  | d + 1 => by
    have h := R_mono (i := i) d
    have h2 := R_lo (i + d)
    show R i ≤ R (i + d) + R (i + d) * 3878110 / 4294967296
    omega
theorem R_le {i j : Nat} (h : i ≤ j) : R i ≤ R j := by
  have := R_mono (i := i) (j - i)
  rwa [Nat.add_sub_cancel' h] at this
theorem R_767 : R 767 = 2197039535684 := by decide +kernel
theorem R_hi {i : Nat} (h : i ≤ 767) : R i ≤ 2197039535684 := by
  have := R_le h
  rwa [R_767] at this
theorem power_loop {n : Nat} (hn : n ≤ 767) : ∀ d j : Nat, j + d = n → ∀ k : Nat, tone_power.l0 (k + 1 + d) (R j) n j = some (R n)
  | 0, j, hj, k => by
    obtain rfl : j = n := by omega
    show tone_power.l0 (k + 1) (R j) j j = _
    simp only [tone_power.l0]
    rw [if_neg (by omega)]
  | d + 1, j, hj, k => by
    show tone_power.l0 (k + 1 + d + 1) (R j) n j = _
    have h0 := R_lo j
    have h1 := R_hi (i := j) (by omega)
    simp only [tone_power.l0]
    rw [if_pos (by omega), w64 (x := R j * 3878110) (by omega) (by omega), w64 (x := (j : Int) + 1) (by omega) (by omega), w64 (by omega) (by omega)]
    exact power_loop hn d (j + 1) (by omega) k
theorem power_eq {n : Nat} (hn : n ≤ 767) {k : Nat} (hk : 800 ≤ k) : tone_power.f k n = some (R n) := by
  unfold tone_power.f
  obtain ⟨m, rfl⟩ : ∃ m, k = m + 1 + n := ⟨k - 1 - n, by omega⟩
  exact power_loop hn n 0 (by omega) m
/-- the power of an exponent, 7,680 added to it, times 2^34 -/
def G (u : Nat) : Int := R (u % 768) * 2 ^ (u / 768)
def E (u : Nat) : Int := G u / 17179869184
theorem pow_pos2 (n : Nat) : (0 : Int) < 2 ^ n := Int.pow_pos (by decide)
theorem G_succ (u : Nat) : G u ≤ G (u + 1) := by
  unfold G
  by_cases h : u % 768 = 767
  · have e1 : (u + 1) % 768 = 0 := by omega
    have e2 : (u + 1) / 768 = u / 768 + 1 := by omega
    rw [h, e1, e2, R_767, Int.pow_succ]
    show 2197039535684 * 2 ^ (u / 768) ≤ 1099511627776 * (2 ^ (u / 768) * 2)
    have := pow_pos2 (u / 768)
    omega
  · have e1 : (u + 1) % 768 = u % 768 + 1 := by omega
    have e2 : (u + 1) / 768 = u / 768 := by omega
    rw [e1, e2]
    exact Int.mul_le_mul_of_nonneg_right (R_le (by omega)) (Int.le_of_lt (pow_pos2 _))
theorem G_mono {u : Nat} : ∀ d, G u ≤ G (u + d)
  | 0 => Int.le_refl _
  | d + 1 => Int.le_trans (G_mono d) (G_succ (u + d))
theorem G_le {u v : Nat} (h : u ≤ v) : G u ≤ G v := by
  have := G_mono (u := u) (v - u)
  rwa [Nat.add_sub_cancel' h] at this
theorem G_lo (u : Nat) : 1099511627776 ≤ G u := G_le (u := 0) (Nat.zero_le u)
theorem G_oct (u : Nat) : G (u + 768) = 2 * G u := by
  unfold G
  rw [Nat.add_mod_right, Nat.add_div_right u (by decide), Int.pow_succ, Int.mul_comm (2 ^ (u / 768)) 2, ← Int.mul_assoc, Int.mul_comm _ 2, Int.mul_assoc]
theorem E_le {u v : Nat} (h : u ≤ v) : E u ≤ E v := Int.ediv_le_ediv (by decide) (G_le h)
theorem E_pos (u : Nat) : 64 ≤ E u := by
  have := G_lo u
  unfold E
  omega
theorem E_oct (u : Nat) : E (u + 768) - 2 * E u = 0 ∨ E (u + 768) - 2 * E u = 1 := by
  unfold E
  rw [G_oct]
  omega
theorem E_top : E 15360 = 67108864 := by decide +kernel
theorem E_hi {u : Nat} (h : u ≤ 15360) : E u ≤ 67108864 := by
  have := E_le h
  rwa [E_top] at this
theorem shl_eq {x : Int} {q : Nat} (hq : q ≤ 10) (h0 : 0 ≤ x) (h1 : x ≤ 2197039535684) : shl .i64 x q = x * 2 ^ q := by
  have hp : (2 : Int) ^ q ≤ 1024 := by
    have : ∀ q : Nat, q < 11 → (2 : Int) ^ q ≤ 1024 := by decide
    exact this q (by omega)
  have hp0 := pow_pos2 q
  have hm : x * 2 ^ q ≤ 2197039535684 * 1024 := Int.mul_le_mul h1 hp (by omega) (by omega)
  have hm0 : 0 ≤ x * 2 ^ q := Int.mul_nonneg h0 (by omega)
  unfold shl
  have e : min ((q : Int).toNat) (IntKind.i64.bits) = q := by
    show min q 64 = q
    omega
  rw [e, IntKind.wrap_i64]
  omega
theorem E_up (i q : Nat) (hi : i < 768) : E (768 * (q + 10) + i) = R i * 2 ^ q / 16777216 := by
  unfold E G
  rw [Nat.mul_add_mod, Nat.mod_eq_of_lt hi, Nat.mul_add_div (by decide), Nat.div_eq_of_lt hi, Nat.add_zero, Int.pow_add]
  show R i * (2 ^ q * 1024) / 17179869184 = _
  rw [← Int.mul_assoc]
  omega
theorem E_down (i q : Nat) (hi : i < 768) (hq : q ≤ 10) : E (768 * (10 - q) + i) = R i / 2 ^ (24 + q) := by
  unfold E G
  rw [Nat.mul_add_mod, Nat.mod_eq_of_lt hi, Nat.mul_add_div (by decide), Nat.div_eq_of_lt hi, Nat.add_zero]
  rcases (by omega : q = 0 ∨ q = 1 ∨ q = 2 ∨ q = 3 ∨ q = 4 ∨ q = 5 ∨ q = 6 ∨ q = 7 ∨ q = 8 ∨ q = 9 ∨ q = 10) with rfl | rfl | rfl | rfl | rfl | rfl | rfl | rfl | rfl | rfl | rfl
  all_goals simp only [Nat.reduceSub, Nat.reduceAdd, Int.reducePow]
  all_goals omega
theorem shr_eq {x : Int} {q : Nat} (hq : q ≤ 64) : shr .i64 x q = x / 2 ^ q := by
  unfold shr
  have e : min ((q : Int).toNat) (IntKind.i64.bits) = q := by
    show min q 64 = q
    omega
  rw [e]
theorem exp_eq {v : Int} (h0 : -7680 ≤ v) (h1 : v ≤ 7680) {k : Nat} (hk : 800 ≤ k) : tone_Exp.f k v = some (E (v + 7680).toNat) := by
  unfold tone_Exp.f tone_in.f
  rw [if_pos h0, decide_eq_true h1]
  simp only [Option.bind_some]
  rw [if_pos trivial, w64 (x := v + 7680) (by omega) (by omega), Int.tdiv_eq_ediv_of_nonneg (by omega), w64 (x := (v + 7680) / 768) (by omega) (by omega), w64 (x := (v + 7680) / 768 - 10) (by omega) (by omega), w64 (x := 768 * ((v + 7680) / 768 - 10)) (by omega) (by omega), w64 (x := v - _) (by omega) (by omega)]
  obtain ⟨i, hi, hv⟩ : ∃ i : Nat, i < 768 ∧ v - 768 * ((v + 7680) / 768 - 10) = i := ⟨(v - 768 * ((v + 7680) / 768 - 10)).toNat, by omega, by omega⟩
  rw [hv, power_eq (by omega) hk]
  simp only [Option.bind_some]
  have l0 := R_lo i
  have l1 := R_hi (i := i) (by omega)
  by_cases c : (v + 7680) / 768 - 10 ≥ 0
  · obtain ⟨q, hq⟩ : ∃ q : Nat, (v + 7680) / 768 - 10 = q := ⟨((v + 7680) / 768 - 10).toNat, by omega⟩
    rw [hq, if_pos (by omega), if_pos (by omega), shl_eq (by omega) (by omega) l1, ← E_up i q hi]
    congr 2
    omega
  · obtain ⟨q, hq⟩ : ∃ q : Nat, (v + 7680) / 768 - 10 = -(q : Int) := ⟨(-((v + 7680) / 768 - 10)).toNat, by omega⟩
    rw [if_neg c, hq, w64 (by omega) (by omega), if_pos (by omega), show (24 : Int) - -(q : Int) = ((24 + q : Nat) : Int) from by omega, shr_eq (by omega), ← E_down i q hi (by omega)]
    congr 2
    omega
theorem exp_out {v : Int} (h : v < -7680 ∨ 7680 < v) (k : Nat) : tone_Exp.f k v = some 0 := by
  unfold tone_Exp.f tone_in.f
  by_cases c : -7680 ≤ v
  · rw [if_pos c, decide_eq_false (by omega)]; rfl
  · rw [if_neg c]; rfl
theorem tdivn {a b : Int} (h : 0 ≤ a) : a.tdiv b = a / b := Int.tdiv_eq_ediv_of_nonneg h
/-- the period of a pitch, 3,840 added to it -/
def Pd (p : Int) : Int := mx 1 (1712 * E (11520 - p).toNat / 65536)
theorem Pd_lo (p : Int) : 1 ≤ Pd p := by unfold Pd mx; split <;> omega
theorem Pd_anti {p q : Int} (h : p ≤ q) : Pd q ≤ Pd p := by
  have := E_le (u := (11520 - q).toNat) (v := (11520 - p).toNat) (by omega)
  unfold Pd mx
  omega
theorem Pd_hi {p : Int} (h : -3840 ≤ p) : Pd p ≤ 1753088 := by
  have := E_hi (u := (11520 - p).toNat) (by omega)
  unfold Pd mx
  omega
theorem period_eq {p : Int} (h0 : -3840 ≤ p) (h1 : p ≤ 11519) {k : Nat} (hk : 800 ≤ k) : tone_Period.f k p = some (Pd p) := by
  unfold tone_Period.f tone_in.f
  rw [if_pos h0, decide_eq_true h1]
  simp only [Option.bind_some]
  have e : (3840 - p + 7680).toNat = (11520 - p).toNat := by omega
  have e1 := E_pos (11520 - p).toNat
  have e2 := E_hi (u := (11520 - p).toNat) (by omega)
  rw [if_pos trivial, w64 (x := 3840 - p) (by omega) (by omega), exp_eq (by omega) (by omega) hk, e]
  simp only [Option.bind_some]
  rw [w64 (x := 1712 * _) (by omega) (by omega), tdivn (by omega), w64 (by omega) (by omega)]
  rfl
/-- the frequency of a pitch, for a rate -/
def Fq (rate p : Int) : Int := rate * E (p + 3840).toNat / 256
theorem Fq_mono {rate p q : Int} (hr : 0 ≤ rate) (h : p ≤ q) : Fq rate p ≤ Fq rate q := by
  have := E_le (u := (p + 3840).toNat) (v := (q + 3840).toNat) (by omega)
  exact Int.ediv_le_ediv (by decide) (Int.mul_le_mul_of_nonneg_left this hr)
theorem freq_eq {rate p : Int} (r0 : 1 ≤ rate) (r1 : rate ≤ 65535) (h0 : -3840 ≤ p) (h1 : p ≤ 11519) {k : Nat} (hk : 800 ≤ k) : tone_Freq.f k rate p = some (Fq rate p) := by
  unfold tone_Freq.f tone_in.f
  rw [if_pos r0, decide_eq_true r1]
  simp only [Option.bind_some]
  rw [if_pos trivial, if_pos h0, decide_eq_true h1]
  simp only [Option.bind_some]
  have e : (p - 3840 + 7680).toNat = (p + 3840).toNat := by omega
  have e1 := E_pos (p + 3840).toNat
  have e2 := E_hi (u := (p + 3840).toNat) (by omega)
  have e3 : 0 ≤ rate * E (p + 3840).toNat := Int.mul_nonneg (by omega) (by omega)
  have e4 : rate * E (p + 3840).toNat ≤ 65535 * 67108864 := Int.mul_le_mul r1 e2 (by omega) (by omega)
  rw [if_pos trivial, w64 (x := p - 3840) (by omega) (by omega), exp_eq (by omega) (by omega) hk, e]
  simp only [Option.bind_some]
  rw [w64 (x := rate * _) (by omega) (by omega), tdivn e3, w64 (by omega) (by omega)]
  rfl
/-- what the search for a pitch comes to -/
theorem pitch_loop {per : Int} : ∀ (d : Nat) (low high : Int), 0 ≤ low → low ≤ high → high ≤ 7679 → high - low ≤ (d : Int) → (low = 0 ∨ per ≤ Pd low) → (high = 7679 ∨ Pd (high + 1) < per) → ∀ k : Nat, 800 ≤ k →
    ∃ r, tone_PitchOf.l0 (k + 1 + d) per low high = some r ∧ 0 ≤ r ∧ r ≤ 7679 ∧ (r = 0 ∨ per ≤ Pd r) ∧ (r = 7679 ∨ Pd (r + 1) < per)
  | 0, low, high, h0, h1, h2, hd, hl, hh, k, hk => by
    obtain rfl : low = high := by omega
    refine ⟨low, ?_, h0, h2, hl, hh⟩
    show tone_PitchOf.l0 (k + 1) per low low = _
    simp only [tone_PitchOf.l0]
    rw [if_neg (by omega)]
  | d + 1, low, high, h0, h1, h2, hd, hl, hh, k, hk => by
    by_cases c : low < high
    · obtain ⟨m, hm, m0, m1⟩ : ∃ m : Int, (low + high + 1) / 2 = m ∧ low < m ∧ m ≤ high := ⟨_, rfl, by omega, by omega⟩
      have em : wrap64 (Int.tdiv (wrap64 ((wrap64 (low + high)) + 1)) 2) = m := by
        rw [w64 (x := low + high) (by omega) (by omega), w64 (x := low + high + 1) (by omega) (by omega), tdivn (by omega), w64 (by omega) (by omega), hm]
      show ∃ r, tone_PitchOf.l0 (k + 1 + d + 1) per low high = some r ∧ _
      simp only [tone_PitchOf.l0]
      rw [if_pos c, em, period_eq (by omega) (by omega) (by omega)]
      simp only [Option.bind_some]
      by_cases c2 : Pd m ≥ per
      · rw [if_pos c2]
        exact pitch_loop d m high (by omega) m1 h2 (by omega) (.inr c2) hh k hk
      · rw [if_neg c2, w64 (x := m - 1) (by omega) (by omega)]
        exact pitch_loop d low (m - 1) h0 (by omega) (by omega) (by omega) hl (.inr (by rw [Int.sub_add_cancel]; omega)) k hk
    · obtain rfl : low = high := by omega
      refine ⟨low, ?_, h0, h2, hl, hh⟩
      show tone_PitchOf.l0 (k + 1 + d + 1) per low low = _
      simp only [tone_PitchOf.l0]
      rw [if_neg (by omega)]
theorem pitch_eq {per : Int} (h0 : 1 ≤ per) (h1 : per ≤ 1048576) {k : Nat} (hk : 9000 ≤ k) :
    ∃ r, tone_PitchOf.f k per = some r ∧ 0 ≤ r ∧ r ≤ 7679 ∧ (r = 0 ∨ per ≤ Pd r) ∧ (r = 7679 ∨ Pd (r + 1) < per) := by
  obtain ⟨m, rfl⟩ : ∃ m, k = m + 1 + 7679 := ⟨k - 7680, by omega⟩
  unfold tone_PitchOf.f tone_in.f
  rw [if_pos h0, decide_eq_true h1]
  simp only [Option.bind_some]
  rw [if_pos trivial]
  exact pitch_loop 7679 0 7679 (by omega) (by omega) (by omega) (by omega) (.inl rfl) (.inl rfl) m (by omega)
theorem and63 (n : Int) : Go.bits .and .i64 n 63 = n % 64 := by
  have h63 : (BitVec.ofInt 64 63).toNat = 2 ^ 6 - 1 := by decide
  have key : (BitVec.ofInt 64 n &&& BitVec.ofInt 64 63).toNat = (n % ((2 ^ 64 : Nat) : Int)).toNat % 2 ^ 6 := by
    rw [BitVec.toNat_and, BitVec.toNat_ofInt, h63, Nat.and_two_pow_sub_one_eq_mod]
  show IntKind.i64.wrap ((BitVec.ofInt 64 n &&& BitVec.ofInt 64 63).toNat : Nat) = n % 64
  rw [key, IntKind.wrap_i64]
  omega
theorem andM31 (n : Int) : Go.bits .and .i64 n 2147483647 = n % 2147483648 := by
  have h63 : (BitVec.ofInt 64 2147483647).toNat = 2 ^ 31 - 1 := by decide
  have key : (BitVec.ofInt 64 n &&& BitVec.ofInt 64 2147483647).toNat = (n % ((2 ^ 64 : Nat) : Int)).toNat % 2 ^ 31 := by
    rw [BitVec.toNat_and, BitVec.toNat_ofInt, h63, Nat.and_two_pow_sub_one_eq_mod]
  show IntKind.i64.wrap ((BitVec.ofInt 64 n &&& BitVec.ofInt 64 2147483647).toNat : Nat) = n % 2147483648
  rw [key, IntKind.wrap_i64]
  omega
theorem within_eq (a lo hi : Int) : orchestrionref01_within.f a lo hi = tone_in.f a lo hi := by
  unfold orchestrionref01_within.f tone_in.f
  rfl
/-- the row of powers -/
def RL (j : Nat) : List Int := (List.range j).map R
theorem RL_len (j : Nat) : (RL j).length = j := by simp [RL]
theorem RL_succ (j : Nat) : RL (j + 1) = RL j ++ [R j] := by simp [RL, List.range_succ]
theorem RL_rd {n j : Nat} (h : j < n) {i : Int} (hi : i = j) : rd (RL n) i = R j := by
  subst hi
  unfold rd RL
  simp [h]
theorem row_loop {m : Nat} (hm : m = 768) : ∀ d j : Nat, 1 ≤ j → j + d = m → ∀ k : Nat, orchestrionref01_row.l0 (k + 1 + d) (RL j) = some (RL m)
  | 0, j, hj, hd, k => by
    obtain rfl : j = m := by omega
    show orchestrionref01_row.l0 (k + 1) (RL j) = _
    rw [orchestrionref01_row.l0_s]
    simp only [RL_len]
    rw [if_neg (by omega)]
  | d + 1, j, hj, hd, k => by
    show orchestrionref01_row.l0 (k + 1 + d + 1) (RL j) = _
    obtain ⟨i, rfl⟩ : ∃ i, j = i + 1 := ⟨j - 1, by omega⟩
    have h0 := R_lo i
    have h1 := R_hi (i := i) (by omega)
    have e : wrap64 (((i + 1 : Nat) : Int) - 1) = (i : Int) := by rw [w64 (by omega) (by omega)]; omega
    rw [orchestrionref01_row.l0_s]
    simp only [RL_len]
    rw [e, RL_rd (n := i + 1) (j := i) (by omega) rfl, if_pos (by omega), if_pos (by omega), if_pos (by omega), if_pos (by omega), w64 (x := R i * 3878110) (by omega) (by omega), w64 (by omega) (by omega)]
    have e2 := RL_succ (i + 1)
    rw [show R (i + 1) = R i + R i * 3878110 / 4294967296 from rfl] at e2
    rw [← e2]
    exact row_loop hm d (i + 1 + 1) (by omega) (by omega) k
theorem row_eq {k : Nat} (hk : 800 ≤ k) : orchestrionref01_row.f k = some (RL 768) := by
  obtain ⟨m, rfl⟩ : ∃ m, k = m + 1 + 767 := ⟨k - 768, by omega⟩
  exact row_loop rfl 767 1 (by omega) (by omega) m
theorem floor_eq (b : Int) (hb : b = 64 ∨ b = 768) (a : Int) (h0 : -9223372036854775808 ≤ a) (h1 : a ≤ 9223372036854775807) : orchestrionref01_Floor.f a b = some (a / b) := by
  unfold orchestrionref01_Floor.f
  rw [if_neg (by omega)]
  by_cases c : 0 ≤ a
  · rw [Int.tmod_eq_emod_of_nonneg c, Int.tdiv_eq_ediv_of_nonneg c]
    rcases hb with rfl | rfl <;> rw [if_neg (by omega), w64 (by omega) (by omega)]
  · obtain ⟨m, rfl⟩ : ∃ m, a = -m := ⟨-a, by omega⟩
    rw [Int.neg_tmod, Int.neg_tdiv, Int.tmod_eq_emod_of_nonneg (by omega), Int.tdiv_eq_ediv_of_nonneg (by omega)]
    rcases hb with rfl | rfl
    · by_cases c2 : -(m % 64) < 0
      · rw [if_pos c2, w64 (x := -(m / 64)) (by omega) (by omega), w64 (by omega) (by omega)]
        congr 1
        omega
      · rw [if_neg c2, w64 (by omega) (by omega)]
        congr 1
        omega
    · by_cases c2 : -(m % 768) < 0
      · rw [if_pos c2, w64 (x := -(m / 768)) (by omega) (by omega), w64 (by omega) (by omega)]
        congr 1
        omega
      · rw [if_neg c2, w64 (by omega) (by omega)]
        congr 1
        omega
theorem pow_cut {x : Int} {q : Nat} (hq : q ≤ 10) : x * 2 ^ q / 16777216 = x / 2 ^ (24 - q) := by
  rcases (by omega : q = 0 ∨ q = 1 ∨ q = 2 ∨ q = 3 ∨ q = 4 ∨ q = 5 ∨ q = 6 ∨ q = 7 ∨ q = 8 ∨ q = 9 ∨ q = 10) with rfl | rfl | rfl | rfl | rfl | rfl | rfl | rfl | rfl | rfl | rfl
  all_goals simp only [Nat.reduceSub, Int.reducePow]
  all_goals omega
theorem raised_eq {x q : Int} {n : Nat} (hn : n ≤ 64) (h : 24 - q = n) (h1 : 1 ≤ n) : orchestrionref01_raised.f x q = some (x / 2 ^ n) := by
  unfold orchestrionref01_raised.f
  rw [if_neg (by omega), w64 (x := 24 - q) (by omega) (by omega), if_pos (by omega), h, shr_eq hn]
theorem rexp_eq {v : Int} (h0 : -7680 ≤ v) (h1 : v ≤ 7680) : orchestrionref01_exp.f (RL 768) v = some (E (v + 7680).toNat) := by
  unfold orchestrionref01_exp.f
  rw [floor_eq 768 (.inr rfl) v (by omega) (by omega)]
  simp only [Option.bind_some, RL_len]
  rw [w64 (x := 768 * (v / 768)) (by omega) (by omega), w64 (x := v - _) (by omega) (by omega), if_pos (by omega), if_pos (by omega)]
  obtain ⟨i, hi, hv⟩ : ∃ i : Nat, i < 768 ∧ v - 768 * (v / 768) = i := ⟨(v - 768 * (v / 768)).toNat, by omega, by omega⟩
  rw [RL_rd (j := i) hi hv]
  by_cases c : 0 ≤ v / 768
  · obtain ⟨q, hq⟩ : ∃ q : Nat, v / 768 = q := ⟨(v / 768).toNat, by omega⟩
    rw [hq, raised_eq (n := 24 - q) (by omega) (by omega) (by omega), ← pow_cut (by omega), ← E_up i q hi]
    simp only [Option.bind_some]
    congr 2
    omega
  · obtain ⟨q, hq⟩ : ∃ q : Nat, v / 768 = -(q : Int) := ⟨(-(v / 768)).toNat, by omega⟩
    rw [hq, raised_eq (n := 24 + q) (by omega) (by omega) (by omega), ← E_down i q hi (by omega)]
    simp only [Option.bind_some]
    congr 2
    omega
theorem same_next (a : Int) : ∃ v, tone_Next.f a = some v ∧ orchestrionref01_Next.f a = some v := by
  unfold orchestrionref01_Next.f
  rw [within_eq]
  unfold tone_Next.f tone_in.f
  split <;> simp only [Option.bind_some]
  · split
    · exact ⟨_, rfl, rfl⟩
    · exact ⟨_, rfl, rfl⟩
  · exact ⟨0, rfl, rfl⟩
theorem in_yes {a lo hi : Int} (h0 : lo ≤ a) (h1 : a ≤ hi) : tone_in.f a lo hi = some true := by
  unfold tone_in.f
  rw [if_pos h0, decide_eq_true h1]
theorem in_no {a lo hi : Int} (h : ¬(lo ≤ a ∧ a ≤ hi)) : tone_in.f a lo hi = some false := by
  unfold tone_in.f
  by_cases c : lo ≤ a
  · rw [if_pos c, decide_eq_false (fun h2 => h ⟨c, h2⟩)]
  · rw [if_neg c]
theorem same_pow2 (a : Int) : ∃ v, tone_Pow2.f 9000 a = some v ∧ orchestrionref01_Pow2.f 9000 a = some v := by
  unfold tone_Pow2.f orchestrionref01_Pow2.f
  rw [within_eq]
  by_cases c : 0 ≤ a ∧ a ≤ 767
  · obtain ⟨n, rfl⟩ := Int.eq_ofNat_of_zero_le c.1
    rw [in_yes c.1 c.2, power_eq (n := n) (by omega) (by decide), row_eq (by decide)]
    simp only [Option.bind_some, if_true, RL_len]
    rw [if_pos (by omega), if_pos (by omega), RL_rd (j := n) (by omega) rfl, raised_eq (n := 24) (by omega) (by omega) (by omega)]
    exact ⟨_, rfl, rfl⟩
  · rw [in_no c]
    exact ⟨0, rfl, rfl⟩
theorem Rexp_eq {v : Int} (h0 : -7680 ≤ v) (h1 : v ≤ 7680) : orchestrionref01_Exp.f 9000 v = some (E (v + 7680).toNat) := by
  unfold orchestrionref01_Exp.f
  rw [within_eq, in_yes h0 h1, row_eq (by decide)]
  simp only [Option.bind_some, if_true]
  rw [rexp_eq h0 h1]
  rfl
theorem same_exp (a : Int) : ∃ v, tone_Exp.f 9000 a = some v ∧ orchestrionref01_Exp.f 9000 a = some v := by
  by_cases c : -7680 ≤ a ∧ a ≤ 7680
  · exact ⟨_, exp_eq c.1 c.2 (by decide), Rexp_eq c.1 c.2⟩
  · refine ⟨0, exp_out (by omega) _, ?_⟩
    unfold orchestrionref01_Exp.f
    rw [within_eq, in_no c]
    rfl
theorem pitched_eq (a : Int) : orchestrionref01_pitched.f a = tone_in.f a (-3840) 11519 := by
  unfold orchestrionref01_pitched.f
  rw [within_eq]
  cases tone_in.f a (-3840) 11519 <;> rfl
theorem same_freq (r p : Int) : ∃ v, tone_Freq.f 9000 r p = some v ∧ orchestrionref01_Freq.f 9000 r p = some v := by
  unfold tone_Freq.f orchestrionref01_Freq.f
  rw [within_eq, pitched_eq]
  by_cases c : 1 ≤ r ∧ r ≤ 65535
  · rw [in_yes c.1 c.2]
    simp only [Option.bind_some, if_true]
    by_cases d : -3840 ≤ p ∧ p ≤ 11519
    · rw [in_yes d.1 d.2]
      simp only [Option.bind_some, if_true]
      rw [w64 (x := p - 3840) (by omega) (by omega), exp_eq (by omega) (by omega) (by decide), Rexp_eq (by omega) (by omega)]
      exact ⟨_, rfl, rfl⟩
    · rw [in_no d]
      exact ⟨0, rfl, rfl⟩
  · rw [in_no c]
    exact ⟨0, rfl, rfl⟩
theorem rperiod_eq {p : Int} (h0 : -3840 ≤ p) (h1 : p ≤ 11519) : orchestrionref01_period.f (RL 768) p = some (Pd p) := by
  unfold orchestrionref01_period.f
  have e : (3840 - p + 7680).toNat = (11520 - p).toNat := by omega
  have e1 := E_pos (11520 - p).toNat
  have e2 := E_hi (u := (11520 - p).toNat) (by omega)
  rw [w64 (x := 3840 - p) (by omega) (by omega), rexp_eq (by omega) (by omega), e]
  simp only [Option.bind_some]
  rw [w64 (x := 1712 * _) (by omega) (by omega), tdivn (by omega), w64 (by omega) (by omega)]
  unfold Pd mx
  by_cases c : 1712 * E (11520 - p).toNat / 65536 < 1
  · rw [if_pos c, if_neg (by omega)]
  · rw [if_neg c]
    by_cases d : 1 < 1712 * E (11520 - p).toNat / 65536
    · rw [if_pos d]
    · rw [if_neg d]
      congr 1
      omega
theorem same_period (p : Int) : ∃ v, tone_Period.f 9000 p = some v ∧ orchestrionref01_Period.f 9000 p = some v := by
  by_cases c : -3840 ≤ p ∧ p ≤ 11519
  · refine ⟨_, period_eq c.1 c.2 (by decide), ?_⟩
    unfold orchestrionref01_Period.f
    rw [pitched_eq, in_yes c.1 c.2, row_eq (by decide)]
    simp only [Option.bind_some, if_true]
    rw [rperiod_eq c.1 c.2]
    rfl
  · unfold tone_Period.f orchestrionref01_Period.f
    rw [pitched_eq, in_no c]
    exact ⟨0, rfl, rfl⟩
theorem rpitch_loop {per r : Int} (r0 : 0 ≤ r) (r1 : r ≤ 7679) (r2 : r = 0 ∨ per ≤ Pd r) (r3 : r = 7679 ∨ Pd (r + 1) < per) : ∀ (d : Nat) (x : Int), x = r + d → x ≤ 7679 → ∀ k : Nat, orchestrionref01_PitchOf.l0 (k + 1 + d) per (RL 768) x = some r
  | 0, x, hx, hx1, k => by
    obtain rfl : x = r := by omega
    show orchestrionref01_PitchOf.l0 (k + 1) per (RL 768) x = _
    simp only [orchestrionref01_PitchOf.l0]
    by_cases c : x > 0
    · rw [if_pos c, rperiod_eq (by omega) (by omega)]
      simp only [Option.bind_some]
      rw [if_pos (by omega)]
    · rw [if_neg c]
      congr 1
      omega
  | d + 1, x, hx, hx1, k => by
    show orchestrionref01_PitchOf.l0 (k + 1 + d + 1) per (RL 768) x = _
    have := Pd_anti (p := r + 1) (q := x) (by omega)
    simp only [orchestrionref01_PitchOf.l0]
    rw [if_pos (by omega), rperiod_eq (by omega) (by omega)]
    simp only [Option.bind_some]
    rw [if_neg (by omega), w64 (x := x - 1) (by omega) (by omega)]
    exact rpitch_loop r0 r1 r2 r3 d (x - 1) (by omega) (by omega) k
theorem same_pitch (p : Int) : ∃ v, tone_PitchOf.f 9000 p = some v ∧ orchestrionref01_PitchOf.f 9000 p = some v := by
  by_cases c : 1 ≤ p ∧ p ≤ 1048576
  · obtain ⟨r, hr, r0, r1, r2, r3⟩ := pitch_eq c.1 c.2 (k := 9000) (by decide)
    refine ⟨r, hr, ?_⟩
    unfold orchestrionref01_PitchOf.f
    rw [within_eq, in_yes c.1 c.2, row_eq (by decide)]
    simp only [Option.bind_some, if_true]
    obtain ⟨d, hd⟩ : ∃ d : Nat, 7679 = r + d := ⟨(7679 - r).toNat, by omega⟩
    obtain ⟨m, hm⟩ : ∃ m, 9000 = m + 1 + d := ⟨9000 - 1 - d, by omega⟩
    rw [hm]
    exact rpitch_loop r0 r1 r2 r3 d 7679 hd (by omega) m
  · unfold tone_PitchOf.f orchestrionref01_PitchOf.f
    rw [within_eq, in_no c]
    exact ⟨0, rfl, rfl⟩
theorem same_freqof (r p : Int) : ∃ v, tone_FreqOf.f r p = some v ∧ orchestrionref01_FreqOf.f r p = some v := by
  unfold tone_FreqOf.f orchestrionref01_FreqOf.f
  rw [within_eq, within_eq]
  by_cases c : 1 ≤ r ∧ r ≤ 65535
  · rw [in_yes c.1 c.2]
    simp only [Option.bind_some, if_true]
    by_cases d : 1 ≤ p ∧ p ≤ 1048576
    · rw [in_yes d.1 d.2]
      simp only [Option.bind_some, if_true]
      rw [if_neg (by omega)]
      exact ⟨_, rfl, rfl⟩
    · rw [in_no d]
      exact ⟨0, rfl, rfl⟩
  · rw [in_no c]
    exact ⟨0, rfl, rfl⟩
theorem same_step (r p : Int) : ∃ v, tone_Step.f r p = some v ∧ orchestrionref01_Step.f 9000 r p = some v := by
  unfold tone_Step.f orchestrionref01_Step.f
  rw [within_eq, within_eq]
  by_cases c : 0 ≤ r ∧ r ≤ 68719476736
  · rw [in_yes c.1 c.2]
    simp only [Option.bind_some, if_true]
    by_cases d : 1000 ≤ p ∧ p ≤ 96000
    · rw [in_yes d.1 d.2]
      simp only [Option.bind_some, if_true, Bool.not_true]
      rw [if_neg (by omega)]
      refine ⟨_, rfl, ?_⟩
      show orchestrionref01_Step.j0 (8999 + 1) r p false = _
      simp only [orchestrionref01_Step.j0]
      rw [if_neg (by decide), if_neg (by omega)]
      unfold mn
      by_cases e : wrap64 (Int.tdiv (wrap64 (r * 256)) p) > 268435456
      · rw [if_pos e, if_neg (by omega)]
      · rw [if_neg e]
        by_cases e2 : wrap64 (Int.tdiv (wrap64 (r * 256)) p) < 268435456
        · rw [if_pos e2]
        · rw [if_neg e2]
          congr 1
          omega
    · rw [in_no d]
      exact ⟨0, rfl, rfl⟩
  · rw [in_no c]
    exact ⟨0, rfl, rfl⟩
theorem same_semi (p : Int) : ∃ v, tone_Semitone.f p = some v ∧ orchestrionref01_Semitone.f p = some v := by
  unfold tone_Semitone.f orchestrionref01_Semitone.f
  rw [pitched_eq]
  by_cases c : -3840 ≤ p ∧ p ≤ 11519
  · rw [in_yes c.1 c.2]
    simp only [Option.bind_some, if_true]
    rw [w64 (x := p + 32) (by omega) (by omega), floor_eq 64 (.inl rfl) _ (by omega) (by omega)]
    exact ⟨_, rfl, rfl⟩
  · rw [in_no c]
    exact ⟨0, rfl, rfl⟩
theorem mod_eq {a : Int} (h0 : -9223372036854775808 ≤ a) (h1 : a ≤ 9223372036854775807) : orchestrionref01_Mod.f a 64 = some (a % 64) := by
  unfold orchestrionref01_Mod.f
  rw [floor_eq 64 (.inl rfl) a h0 h1]
  simp only [Option.bind_some]
  rw [w64 (x := 64 * (a / 64)) (by omega) (by omega), w64 (by omega) (by omega)]
  congr 1
  omega
theorem sine_ref : ∀ p : Nat, p < 64 → tone_sine.f p = (if Int.tmod (p : Int) 32 > 16 then orchestrionref01_Wave.j0 9000 p (wrap64 (32 - Int.tmod (p : Int) 32)) else orchestrionref01_Wave.j0 9000 p (Int.tmod (p : Int) 32)) ∧ (tone_sine.f p).isSome = true := by decide +kernel
theorem same_wave (k p s : Int) (h0 : -9223372036854775808 ≤ p) (h1 : p ≤ 9223372036854775807) : ∃ v, tone_Wave.f k p s = some v ∧ orchestrionref01_Wave.f 9000 k p s = some v := by
  unfold tone_Wave.f orchestrionref01_Wave.f
  rw [and63, mod_eq h0 h1]
  simp only [Option.bind_some]
  obtain ⟨n, hn⟩ := Int.eq_ofNat_of_zero_le (Int.emod_nonneg p (b := 64) (by decide))
  by_cases k0 : k = 0
  · rw [if_pos k0, if_pos k0, hn]
    obtain ⟨e, hs⟩ := sine_ref n (by omega)
    obtain ⟨v, hv⟩ := Option.isSome_iff_exists.1 hs
    exact ⟨v, by rw [hv]; rfl, by rw [← e, hv]⟩
  · rw [if_neg k0, if_neg k0]
    by_cases k1 : k = 1
    · rw [if_pos k1, if_pos k1]
      exact ⟨_, rfl, rfl⟩
    · rw [if_neg k1, if_neg k1]
      by_cases k2 : k = 2
      · rw [if_pos k2, if_pos k2]
        split
        · exact ⟨_, rfl, rfl⟩
        · exact ⟨_, rfl, rfl⟩
      · rw [if_neg k2, if_neg k2]
        by_cases k3 : k = 3
        · rw [if_pos k3, if_pos k3, within_eq]
          obtain ⟨v, e1, e2⟩ := same_next s
          by_cases c : 0 ≤ s ∧ s ≤ 2147483647
          · rw [in_yes c.1 c.2]
            simp only [Option.bind_some, if_true]
            rw [e1, e2]
            exact ⟨_, rfl, rfl⟩
          · rw [in_no c]
            exact ⟨0, rfl, rfl⟩
        · rw [if_neg k3, if_neg k3]
          exact ⟨0, rfl, rfl⟩
theorem awake_at : orchestrionlaw01_awake.f 9000 = some true := by decide +kernel
end Go.Proofs.Ytfodpoccjdaaaaa.Pure

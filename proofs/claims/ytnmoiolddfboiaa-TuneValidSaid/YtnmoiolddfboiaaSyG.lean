/- The kinds of interpolation: weights, and the value of eight taps. -/
import Derived.Test.YtnmoiolddfboiaaSxH
namespace Go.Proofs.Ytnmoiolddfboiaa.SX
open Go.RowKit Go.Proofs.YtnmoiolddfboiaaW.PrintLast Go.Proofs.Ytnmoiolddfboiaa.TX Go.Proofs.Ytnmoiolddfboiaa.Cu
set_option linter.unusedVariables false
set_option linter.unusedSimpArgs false
/-- a tap's weight of the kind 4 -/
def ww (i f : Int) : Int := if 256 * (i - 3) - f < 0 then (if -(256 * (i - 3) - f) < 1024 then (1024 - -(256 * (i - 3) - f)) * (1024 - -(256 * (i - 3) - f)) else 0) else (if 256 * (i - 3) - f < 1024 then (1024 - (256 * (i - 3) - f)) * (1024 - (256 * (i - 3) - f)) else 0)
/-- the eight weights of a kind (its number as the code has it) -/
def wts : Nat → Int → List Int
  | 0, _ => [0, 0, 0, 1, 0, 0, 0, 0]
  | 1, f => [0, 0, 0, 256 - f, f, 0, 0, 0]
  | 2, f => [0, 0, -f * f * f + 512 * f * f - 65536 * f, 3 * f * f * f - 1280 * f * f + 33554432, -3 * f * f * f + 1024 * f * f + 65536 * f, f * f * f - 256 * f * f, 0, 0]
  | 3, f => [0, 0, (256 - f) * (256 - f), 65536 + 2 * f * (256 - f), f * f, 0, 0, 0]
  | _, f => [ww 0 f, ww 1 f, ww 2 f, ww 3 f, ww 4 f, ww 5 f, ww 6 f, ww 7 f]
theorem wts_len8 : ∀ (n : Nat) (f : Int), (wts n f).length = 8
  | 0, _ => rfl
  | 1, _ => rfl
  | 2, _ => rfl
  | 3, _ => rfl
  | _ + 4, _ => rfl
def shf : Nat → Int
  | 0 => 0
  | 1 => 8
  | 2 => 25
  | 3 => 17
  | _ => -1
def wt (kind : Nat) (f : Int) (i : Nat) : Int := (wts kind f).getD i 0
abbrev wv (kind : Nat) (f : Int) : Value := .agg #[iv (wt kind f 0), iv (wt kind f 1), iv (wt kind f 2), iv (wt kind f 3), iv (wt kind f 4), iv (wt kind f 5), iv (wt kind f 6), iv (wt kind f 7)]

def wc : Nat → Int → Array Value
  | 0, _ => #[iv 0, iv 0, iv 0, iv 0, iv 0, iv 0, iv 0, iv 0]
  | 1, f => #[iv (ww 0 f), iv 0, iv 0, iv 0, iv 0, iv 0, iv 0, iv 0]
  | 2, f => #[iv (ww 0 f), iv (ww 1 f), iv 0, iv 0, iv 0, iv 0, iv 0, iv 0]
  | 3, f => #[iv (ww 0 f), iv (ww 1 f), iv (ww 2 f), iv 0, iv 0, iv 0, iv 0, iv 0]
  | 4, f => #[iv (ww 0 f), iv (ww 1 f), iv (ww 2 f), iv (ww 3 f), iv 0, iv 0, iv 0, iv 0]
  | 5, f => #[iv (ww 0 f), iv (ww 1 f), iv (ww 2 f), iv (ww 3 f), iv (ww 4 f), iv 0, iv 0, iv 0]
  | 6, f => #[iv (ww 0 f), iv (ww 1 f), iv (ww 2 f), iv (ww 3 f), iv (ww 4 f), iv (ww 5 f), iv 0, iv 0]
  | 7, f => #[iv (ww 0 f), iv (ww 1 f), iv (ww 2 f), iv (ww 3 f), iv (ww 4 f), iv (ww 5 f), iv (ww 6 f), iv 0]
  | _, f => #[iv (ww 0 f), iv (ww 1 f), iv (ww 2 f), iv (ww 3 f), iv (ww 4 f), iv (ww 5 f), iv (ww 6 f), iv (ww 7 f)]
theorem wsq {d : Int} (h : -1024 ≤ d) (h2 : d ≤ 1024) : wrap64 (d * d) = d * d := by
  have a : 0 ≤ d * d := by rcases Int.le_total 0 d with h | h; exact Int.mul_nonneg h h; exact Int.mul_nonneg_of_nonpos_of_nonpos h h
  have b : d * d ≤ 1024 * 1024 := by
    rcases Int.le_total 0 d with h | h
    · exact Int.mul_le_mul (by omega) (by omega) h (by omega)
    · have : (-d) * (-d) ≤ 1024 * 1024 := Int.mul_le_mul (by omega) (by omega) (by omega) (by omega)
      simpa [Int.neg_mul_neg] using this
  unfold wrap64
  omega
theorem wwn {i f d : Int} (hd : 256 * (i - 3) - f = d) (h : d < 0) (h2 : -d < 1024) : wrap64 ((1024 + d) * (1024 + d)) = ww i f := by
  unfold ww; rw [hd, if_pos h, if_pos h2, wsq (by omega) (by omega), show 1024 - -d = 1024 + d from by omega]
theorem wwp {i f d : Int} (hd : 256 * (i - 3) - f = d) (h : 0 ≤ d) (h2 : d < 1024) : wrap64 ((1024 - d) * (1024 - d)) = ww i f := by
  unfold ww; rw [hd, if_neg (by omega), if_pos h2, wsq (by omega) (by omega)]
theorem wwz {i f d : Int} (hd : 256 * (i - 3) - f = d) (h : 0 ≤ d) (h2 : 1024 ≤ d) : 0 = ww i f := by
  unfold ww; rw [hd, if_neg (by omega), if_neg (by omega)]
theorem ww3a {f : Int} (h : 0 < f) (h2 : f < 1024) : wrap64 ((1024 - f) * (1024 - f)) = ww 3 f := by
  have := wwn (i := 3) (f := f) (d := -f) (by omega) (by omega) (by omega)
  rwa [show 1024 + -f = 1024 - f from by omega] at this
theorem ww3b {f : Int} (h : 0 ≤ f) (h2 : f ≤ 0) : wrap64 ((1024 + f) * (1024 + f)) = ww 3 f := by
  obtain rfl : f = 0 := by omega
  decide +kernel
theorem wc_0 (f : Int) : wc 0 f = #[iv 0, iv 0, iv 0, iv 0, iv 0, iv 0, iv 0, iv 0] := rfl
theorem wc_1 (f : Int) : wc 1 f = #[iv (ww 0 f), iv 0, iv 0, iv 0, iv 0, iv 0, iv 0, iv 0] := rfl
theorem wc_2 (f : Int) : wc 2 f = #[iv (ww 0 f), iv (ww 1 f), iv 0, iv 0, iv 0, iv 0, iv 0, iv 0] := rfl
theorem wc_3 (f : Int) : wc 3 f = #[iv (ww 0 f), iv (ww 1 f), iv (ww 2 f), iv 0, iv 0, iv 0, iv 0, iv 0] := rfl
theorem wc_4 (f : Int) : wc 4 f = #[iv (ww 0 f), iv (ww 1 f), iv (ww 2 f), iv (ww 3 f), iv 0, iv 0, iv 0, iv 0] := rfl
theorem wc_5 (f : Int) : wc 5 f = #[iv (ww 0 f), iv (ww 1 f), iv (ww 2 f), iv (ww 3 f), iv (ww 4 f), iv 0, iv 0, iv 0] := rfl
theorem wc_6 (f : Int) : wc 6 f = #[iv (ww 0 f), iv (ww 1 f), iv (ww 2 f), iv (ww 3 f), iv (ww 4 f), iv (ww 5 f), iv 0, iv 0] := rfl
theorem wc_7 (f : Int) : wc 7 f = #[iv (ww 0 f), iv (ww 1 f), iv (ww 2 f), iv (ww 3 f), iv (ww 4 f), iv (ww 5 f), iv (ww 6 f), iv 0] := rfl
theorem wc_8 (f : Int) : wc 8 f = #[iv (ww 0 f), iv (ww 1 f), iv (ww 2 f), iv (ww 3 f), iv (ww 4 f), iv (ww 5 f), iv (ww 6 f), iv (ww 7 f)] := rfl
/-- what holds of a fraction from 0 to 255, by trying all -/
theorem by_fraction {p : Int → Prop} (h : ∀ n : Nat, n < 256 → p n) {f : Int} (h0 : 0 ≤ f) (h1 : f ≤ 255) : p f := by
  have := h f.toNat (by omega)
  rwa [Int.toNat_of_nonneg h0] at this
theorem none_any (f : Int) (w : World) : Calls Try.prog 112 #[iv f] w fun e w' => e = .returned (wv 0 f) ∧ Below w.heap.size w w' := by
  go_enter Try.func112, Try.ntmps112
  go_wp2
  exact bodyPost_ret (v := .agg #[iv 0, iv 0, iv 0, iv 1, iv 0, iv 0, iv 0, iv 0]) (by simp [results, Try.results112, go_sem]) rfl ⟨rfl, (Below.refl _ _).alloc (Nat.le_refl _) _⟩
theorem linear_any (f : Int) (w : World) (h0 : 0 ≤ f) (h1 : f ≤ 255) : Calls Try.prog 113 #[iv f] w fun e w' => e = .returned (wv 1 f) ∧ Below w.heap.size w w' := by
  go_enter Try.func113, Try.ntmps113
  go_wp2
  exact bodyPost_ret (v := .agg #[iv 0, iv 0, iv 0, iv (256 - f), iv f, iv 0, iv 0, iv 0]) (by simp [results, Try.results113, go_sem]) rfl ⟨rfl, (Below.refl _ _).alloc (Nat.le_refl _) _⟩
theorem cub2 {f : Int} (h0 : 0 ≤ f) (h1 : f ≤ 255) : wrap64 (wrap64 (wrap64 (wrap64 (-f * f) * f) + wrap64 (512 * f * f)) - 65536 * f) = -f * f * f + 512 * f * f - 65536 * f := by_fraction (p := fun f => wrap64 (wrap64 (wrap64 (wrap64 (-f * f) * f) + wrap64 (512 * f * f)) - 65536 * f) = -f * f * f + 512 * f * f - 65536 * f) (by decide +kernel) h0 h1
theorem cub3 {f : Int} (h0 : 0 ≤ f) (h1 : f ≤ 255) : wrap64 (wrap64 (wrap64 (wrap64 (3 * f * f) * f) - wrap64 (1280 * f * f)) + 33554432) = 3 * f * f * f - 1280 * f * f + 33554432 := by_fraction (p := fun f => wrap64 (wrap64 (wrap64 (wrap64 (3 * f * f) * f) - wrap64 (1280 * f * f)) + 33554432) = 3 * f * f * f - 1280 * f * f + 33554432) (by decide +kernel) h0 h1
theorem cub4 {f : Int} (h0 : 0 ≤ f) (h1 : f ≤ 255) : wrap64 (wrap64 (wrap64 (wrap64 (-3 * f * f) * f) + wrap64 (1024 * f * f)) + 65536 * f) = -3 * f * f * f + 1024 * f * f + 65536 * f := by_fraction (p := fun f => wrap64 (wrap64 (wrap64 (wrap64 (-3 * f * f) * f) + wrap64 (1024 * f * f)) + 65536 * f) = -3 * f * f * f + 1024 * f * f + 65536 * f) (by decide +kernel) h0 h1
theorem cub5 {f : Int} (h0 : 0 ≤ f) (h1 : f ≤ 255) : wrap64 (wrap64 (wrap64 (f * f) * f) - wrap64 (256 * f * f)) = f * f * f - 256 * f * f := by_fraction (p := fun f => wrap64 (wrap64 (wrap64 (f * f) * f) - wrap64 (256 * f * f)) = f * f * f - 256 * f * f) (by decide +kernel) h0 h1
theorem qua2 {f : Int} (h0 : 0 ≤ f) (h1 : f ≤ 255) : wrap64 ((256 - f) * (256 - f)) = (256 - f) * (256 - f) := by_fraction (p := fun f => wrap64 ((256 - f) * (256 - f)) = (256 - f) * (256 - f)) (by decide +kernel) h0 h1
theorem qua3 {f : Int} (h0 : 0 ≤ f) (h1 : f ≤ 255) : wrap64 (65536 + wrap64 (2 * f * (256 - f))) = 65536 + 2 * f * (256 - f) := by_fraction (p := fun f => wrap64 (65536 + wrap64 (2 * f * (256 - f))) = 65536 + 2 * f * (256 - f)) (by decide +kernel) h0 h1
theorem qua4 {f : Int} (h0 : 0 ≤ f) (h1 : f ≤ 255) : wrap64 (f * f) = f * f := by_fraction (p := fun f => wrap64 (f * f) = f * f) (by decide +kernel) h0 h1
theorem cubic_any (f : Int) (w : World) (h0 : 0 ≤ f) (h1 : f ≤ 255) : Calls Try.prog 114 #[iv f] w fun e w' => e = .returned (wv 2 f) ∧ Below w.heap.size w w' := by
  go_enter Try.func114, Try.ntmps114
  go_wp2
  rw [cub2 h0 h1, cub3 h0 h1, cub4 h0 h1, cub5 h0 h1]
  exact bodyPost_ret (v := wv 2 f) (by simp [results, Try.results114, go_sem]; exact ⟨rfl, rfl, rfl, rfl, rfl, rfl, rfl, rfl⟩) rfl ⟨rfl, (Below.refl _ _).alloc (Nat.le_refl _) _⟩
theorem quadratic_any (f : Int) (w : World) (h0 : 0 ≤ f) (h1 : f ≤ 255) : Calls Try.prog 115 #[iv f] w fun e w' => e = .returned (wv 3 f) ∧ Below w.heap.size w w' := by
  go_enter Try.func115, Try.ntmps115
  go_wp2
  rw [qua2 h0 h1, qua3 h0 h1, qua4 h0 h1]
  exact bodyPost_ret (v := wv 3 f) (by simp [results, Try.results115, go_sem]; exact ⟨rfl, rfl, rfl, rfl, rfl, rfl, rfl, rfl⟩) rfl ⟨rfl, (Below.refl _ _).alloc (Nat.le_refl _) _⟩
set_option maxHeartbeats 2000000 in
theorem wide_any (f : Int) (w : World) (h0 : 0 ≤ f) (h1 : f ≤ 255) : Calls Try.prog 116 #[iv f] w fun e w' => e = .returned (wv 4 f) ∧ Below w.heap.size w w' := by
  go_enter Try.func116, Try.ntmps116
  go_wp2
  go_loopw [6] (fun c wr => ∃ k : Nat, k ≤ 8 ∧ c = iv k ∧ wr = (w.alloc (.cells (wc 0 f) 107)).alloc (.cells (wc k f) 107)) (fun c _ => 8 - (intOf c).toNat)
  case atStart => exact ⟨0, by omega, rfl, rfl⟩
  case round =>
    obtain ⟨k, hk, rfl, rfl⟩ := hrel
    rcases (by omega : k = 0 ∨ k = 1 ∨ k = 2 ∨ k = 3 ∨ k = 4 ∨ k = 5 ∨ k = 6 ∨ k = 7 ∨ k = 8) with rfl | rfl | rfl | rfl | rfl | rfl | rfl | rfl | rfl
    · simp only [wc_0]
      go_wp2
      all_goals (refine ⟨⟨1, by omega, rfl, ?_⟩, by simp [intOf]⟩; first | (rw [wwn (i := 0) (f := f) (by omega) (by omega) (by omega)]; rfl) | (rw [wwp (i := 0) (f := f) (by omega) (by omega) (by omega)]; rfl) | (rw [wc_1, ← wwz (i := 0) (f := f) rfl (by omega) (by omega)]))
    · simp only [wc_0, wc_1]
      go_wp2
      all_goals (refine ⟨⟨2, by omega, rfl, ?_⟩, by simp [intOf]⟩; first | (rw [wwn (i := 1) (f := f) (by omega) (by omega) (by omega)]; rfl) | (rw [wwp (i := 1) (f := f) (by omega) (by omega) (by omega)]; rfl) | (rw [wc_2, ← wwz (i := 1) (f := f) rfl (by omega) (by omega)]))
    · simp only [wc_0, wc_2]
      go_wp2
      all_goals (refine ⟨⟨3, by omega, rfl, ?_⟩, by simp [intOf]⟩; first | (rw [wwn (i := 2) (f := f) (by omega) (by omega) (by omega)]; rfl) | (rw [wwp (i := 2) (f := f) (by omega) (by omega) (by omega)]; rfl) | (rw [wc_3, ← wwz (i := 2) (f := f) rfl (by omega) (by omega)]))
    · simp only [wc_0, wc_3]
      go_wp2
      all_goals (refine ⟨⟨4, by omega, rfl, ?_⟩, by simp [intOf]⟩; first | (rw [ww3a (by omega) (by omega)]; rfl) | (rw [ww3b (by omega) (by omega)]; rfl) | (rw [wwn (i := 3) (f := f) (by omega) (by omega) (by omega)]; rfl) | (rw [wwp (i := 3) (f := f) (by omega) (by omega) (by omega)]; rfl) | (rw [wc_4, ← wwz (i := 3) (f := f) rfl (by omega) (by omega)]))
    · simp only [wc_0, wc_4]
      go_wp2
      all_goals (refine ⟨⟨5, by omega, rfl, ?_⟩, by simp [intOf]⟩; first | (rw [wwn (i := 4) (f := f) (by omega) (by omega) (by omega)]; rfl) | (rw [wwp (i := 4) (f := f) (by omega) (by omega) (by omega)]; rfl) | (rw [wc_5, ← wwz (i := 4) (f := f) rfl (by omega) (by omega)]))
    · simp only [wc_0, wc_5]
      go_wp2
      all_goals (refine ⟨⟨6, by omega, rfl, ?_⟩, by simp [intOf]⟩; first | (rw [wwn (i := 5) (f := f) (by omega) (by omega) (by omega)]; rfl) | (rw [wwp (i := 5) (f := f) (by omega) (by omega) (by omega)]; rfl) | (rw [wc_6, ← wwz (i := 5) (f := f) rfl (by omega) (by omega)]))
    · simp only [wc_0, wc_6]
      go_wp2
      all_goals (refine ⟨⟨7, by omega, rfl, ?_⟩, by simp [intOf]⟩; first | (rw [wwn (i := 6) (f := f) (by omega) (by omega) (by omega)]; rfl) | (rw [wwp (i := 6) (f := f) (by omega) (by omega) (by omega)]; rfl) | (rw [wc_7, ← wwz (i := 6) (f := f) rfl (by omega) (by omega)]))
    · simp only [wc_0, wc_7]
      go_wp2
      all_goals (refine ⟨⟨8, by omega, rfl, ?_⟩, by simp [intOf]⟩; first | (rw [wwn (i := 7) (f := f) (by omega) (by omega) (by omega)]; rfl) | (rw [wwp (i := 7) (f := f) (by omega) (by omega) (by omega)]; rfl) | (rw [wc_8, ← wwz (i := 7) (f := f) rfl (by omega) (by omega)]))
    · simp only [wc_0, wc_8]
      go_wp2
      exact bodyPost_ret (v := wv 4 f) (by simp [results, Try.results116, go_sem]; exact ⟨rfl, rfl, rfl, rfl, rfl, rfl, rfl, rfl⟩) rfl ⟨rfl, ((Below.refl _ _).alloc (Nat.le_refl _) _).alloc (by simp) _⟩
def curvesV : Value := .agg #[.func (Fn.func 112) #[] #[], iv 0, .func (Fn.func 113) #[] #[], iv 8, .func (Fn.func 114) #[] #[], iv 25, .func (Fn.func 115) #[] #[], iv 17, .func (Fn.func 116) #[] #[], iv (-1)]
theorem curves_any (w : World) : Calls Try.prog 84 #[] w fun e w' => e = .returned curvesV ∧ Below w.heap.size w w' := by
  go_enter Try.func84, Try.ntmps84
  go_wp2
  exact bodyPost_ret (v := curvesV) (by simp [results, Try.results84, go_sem]; rfl) rfl ⟨rfl, (Below.refl _ _).alloc (Nat.le_refl _) _⟩
/-- a kind, as a value: its function and its shift -/
def curveV : Nat → Value
  | 0 => .agg #[.func (Fn.func 112) #[] #[], iv 0]
  | 1 => .agg #[.func (Fn.func 113) #[] #[], iv 8]
  | 2 => .agg #[.func (Fn.func 114) #[] #[], iv 25]
  | 3 => .agg #[.func (Fn.func 115) #[] #[], iv 17]
  | _ => .agg #[.func (Fn.func 116) #[] #[], iv (-1)]
/-- the sum of the first k products -/
def d8 (x0 x1 x2 x3 x4 x5 x6 x7 w0 w1 w2 w3 w4 w5 w6 w7 : Int) : Nat → Int
  | 0 => 0
  | 1 => x0 * w0
  | 2 => x0 * w0 + x1 * w1
  | 3 => x0 * w0 + x1 * w1 + x2 * w2
  | 4 => x0 * w0 + x1 * w1 + x2 * w2 + x3 * w3
  | 5 => x0 * w0 + x1 * w1 + x2 * w2 + x3 * w3 + x4 * w4
  | 6 => x0 * w0 + x1 * w1 + x2 * w2 + x3 * w3 + x4 * w4 + x5 * w5
  | 7 => x0 * w0 + x1 * w1 + x2 * w2 + x3 * w3 + x4 * w4 + x5 * w5 + x6 * w6
  | _ => x0 * w0 + x1 * w1 + x2 * w2 + x3 * w3 + x4 * w4 + x5 * w5 + x6 * w6 + x7 * w7
/-- the sum of the first k numbers -/
def a8 (w0 w1 w2 w3 w4 w5 w6 w7 : Int) : Nat → Int
  | 0 => 0
  | 1 => w0
  | 2 => w0 + w1
  | 3 => w0 + w1 + w2
  | 4 => w0 + w1 + w2 + w3
  | 5 => w0 + w1 + w2 + w3 + w4
  | 6 => w0 + w1 + w2 + w3 + w4 + w5
  | 7 => w0 + w1 + w2 + w3 + w4 + w5 + w6
  | _ => w0 + w1 + w2 + w3 + w4 + w5 + w6 + w7
theorem d8_0 (x0 x1 x2 x3 x4 x5 x6 x7 w0 w1 w2 w3 w4 w5 w6 w7 : Int) : d8 x0 x1 x2 x3 x4 x5 x6 x7 w0 w1 w2 w3 w4 w5 w6 w7 0 = 0 := rfl
theorem a8_0 (w0 w1 w2 w3 w4 w5 w6 w7 : Int) : a8 w0 w1 w2 w3 w4 w5 w6 w7 0 = 0 := rfl
theorem d8_1 (x0 x1 x2 x3 x4 x5 x6 x7 w0 w1 w2 w3 w4 w5 w6 w7 : Int) : d8 x0 x1 x2 x3 x4 x5 x6 x7 w0 w1 w2 w3 w4 w5 w6 w7 1 = x0 * w0 := rfl
theorem a8_1 (w0 w1 w2 w3 w4 w5 w6 w7 : Int) : a8 w0 w1 w2 w3 w4 w5 w6 w7 1 = w0 := rfl
theorem d8_2 (x0 x1 x2 x3 x4 x5 x6 x7 w0 w1 w2 w3 w4 w5 w6 w7 : Int) : d8 x0 x1 x2 x3 x4 x5 x6 x7 w0 w1 w2 w3 w4 w5 w6 w7 2 = x0 * w0 + x1 * w1 := rfl
theorem a8_2 (w0 w1 w2 w3 w4 w5 w6 w7 : Int) : a8 w0 w1 w2 w3 w4 w5 w6 w7 2 = w0 + w1 := rfl
theorem d8_3 (x0 x1 x2 x3 x4 x5 x6 x7 w0 w1 w2 w3 w4 w5 w6 w7 : Int) : d8 x0 x1 x2 x3 x4 x5 x6 x7 w0 w1 w2 w3 w4 w5 w6 w7 3 = x0 * w0 + x1 * w1 + x2 * w2 := rfl
theorem a8_3 (w0 w1 w2 w3 w4 w5 w6 w7 : Int) : a8 w0 w1 w2 w3 w4 w5 w6 w7 3 = w0 + w1 + w2 := rfl
theorem d8_4 (x0 x1 x2 x3 x4 x5 x6 x7 w0 w1 w2 w3 w4 w5 w6 w7 : Int) : d8 x0 x1 x2 x3 x4 x5 x6 x7 w0 w1 w2 w3 w4 w5 w6 w7 4 = x0 * w0 + x1 * w1 + x2 * w2 + x3 * w3 := rfl
theorem a8_4 (w0 w1 w2 w3 w4 w5 w6 w7 : Int) : a8 w0 w1 w2 w3 w4 w5 w6 w7 4 = w0 + w1 + w2 + w3 := rfl
theorem d8_5 (x0 x1 x2 x3 x4 x5 x6 x7 w0 w1 w2 w3 w4 w5 w6 w7 : Int) : d8 x0 x1 x2 x3 x4 x5 x6 x7 w0 w1 w2 w3 w4 w5 w6 w7 5 = x0 * w0 + x1 * w1 + x2 * w2 + x3 * w3 + x4 * w4 := rfl
theorem a8_5 (w0 w1 w2 w3 w4 w5 w6 w7 : Int) : a8 w0 w1 w2 w3 w4 w5 w6 w7 5 = w0 + w1 + w2 + w3 + w4 := rfl
theorem d8_6 (x0 x1 x2 x3 x4 x5 x6 x7 w0 w1 w2 w3 w4 w5 w6 w7 : Int) : d8 x0 x1 x2 x3 x4 x5 x6 x7 w0 w1 w2 w3 w4 w5 w6 w7 6 = x0 * w0 + x1 * w1 + x2 * w2 + x3 * w3 + x4 * w4 + x5 * w5 := rfl
theorem a8_6 (w0 w1 w2 w3 w4 w5 w6 w7 : Int) : a8 w0 w1 w2 w3 w4 w5 w6 w7 6 = w0 + w1 + w2 + w3 + w4 + w5 := rfl
theorem d8_7 (x0 x1 x2 x3 x4 x5 x6 x7 w0 w1 w2 w3 w4 w5 w6 w7 : Int) : d8 x0 x1 x2 x3 x4 x5 x6 x7 w0 w1 w2 w3 w4 w5 w6 w7 7 = x0 * w0 + x1 * w1 + x2 * w2 + x3 * w3 + x4 * w4 + x5 * w5 + x6 * w6 := rfl
theorem a8_7 (w0 w1 w2 w3 w4 w5 w6 w7 : Int) : a8 w0 w1 w2 w3 w4 w5 w6 w7 7 = w0 + w1 + w2 + w3 + w4 + w5 + w6 := rfl
theorem d8_8 (x0 x1 x2 x3 x4 x5 x6 x7 w0 w1 w2 w3 w4 w5 w6 w7 : Int) : d8 x0 x1 x2 x3 x4 x5 x6 x7 w0 w1 w2 w3 w4 w5 w6 w7 8 = x0 * w0 + x1 * w1 + x2 * w2 + x3 * w3 + x4 * w4 + x5 * w5 + x6 * w6 + x7 * w7 := rfl
theorem a8_8 (w0 w1 w2 w3 w4 w5 w6 w7 : Int) : a8 w0 w1 w2 w3 w4 w5 w6 w7 8 = w0 + w1 + w2 + w3 + w4 + w5 + w6 + w7 := rfl
/-- the value of a kind, out of the sum of the products and the sum of the weights -/
def fin8 : Nat → Int → Int → Int
  | 0, s, _ => s
  | 1, s, _ => s / 256
  | 2, s, _ => s / 33554432
  | 3, s, _ => s / 131072
  | _, s, a => if s.tmod a < 0 then wrap64 (s.tdiv a - 1) else s.tdiv a
/-- the value of eight taps -/
def val8 (k : Nat) (f : Int) (x0 x1 x2 x3 x4 x5 x6 x7 : Int) : Int := fin8 k (d8 x0 x1 x2 x3 x4 x5 x6 x7 (wt k f 0) (wt k f 1) (wt k f 2) (wt k f 3) (wt k f 4) (wt k f 5) (wt k f 6) (wt k f 7) 8) (a8 (wt k f 0) (wt k f 1) (wt k f 2) (wt k f 3) (wt k f 4) (wt k f 5) (wt k f 6) (wt k f 7) 8)
theorem wt_lo : ∀ k : Nat, k < 5 → ∀ n : Nat, n < 256 → ∀ i : Nat, i < 8 → -67108864 ≤ wt k n i ∧ wt k n i ≤ 67108864 := by decide +kernel
theorem wt_bd {k : Nat} (hk : k ≤ 4) {f : Int} (h0 : 0 ≤ f) (h1 : f ≤ 255) (i : Nat) (hi : i < 8) : -67108864 ≤ wt k f i ∧ wt k f i ≤ 67108864 := by
  have := wt_lo k (by omega) f.toNat (by omega) i hi
  rwa [Int.toNat_of_nonneg h0] at this
theorem wt_sum4 : ∀ n : Nat, n < 256 → 1 ≤ a8 (wt 4 n 0) (wt 4 n 1) (wt 4 n 2) (wt 4 n 3) (wt 4 n 4) (wt 4 n 5) (wt 4 n 6) (wt 4 n 7) 8 := by decide +kernel
theorem prod_bd {x y : Int} (h0 : -32768 ≤ x) (h1 : x ≤ 32767) (h2 : -67108864 ≤ y ∧ y ≤ 67108864) : -4398046511104 ≤ x * y ∧ x * y ≤ 4398046511104 := by
  have ha : (x * y).natAbs ≤ 32768 * 67108864 := by
    rw [Int.natAbs_mul]
    exact Nat.mul_le_mul (by omega) (by omega)
  have e : 32768 * 67108864 = 2199023255552 := by decide
  rw [e] at ha
  omega
set_option maxHeartbeats 4000000 in
theorem value_0 (f x0 x1 x2 x3 x4 x5 x6 x7 : Int) (d0 : 0 ≤ f) (d1 : f ≤ 255) (b : Nat) (w : World) (l0 : -32768 ≤ x0) (m0 : x0 ≤ 32767) (l1 : -32768 ≤ x1) (m1 : x1 ≤ 32767) (l2 : -32768 ≤ x2) (m2 : x2 ≤ 32767) (l3 : -32768 ≤ x3) (m3 : x3 ≤ 32767) (l4 : -32768 ≤ x4) (m4 : x4 ≤ 32767) (l5 : -32768 ≤ x5) (m5 : x5 ≤ 32767) (l6 : -32768 ≤ x6) (m6 : x6 ≤ 32767) (l7 : -32768 ≤ x7) (m7 : x7 ≤ 32767) (hX : w.heap[b]? = some (.cells #[iv x0, iv x1, iv x2, iv x3, iv x4, iv x5, iv x6, iv x7] 107 (0, 0))) :
    Calls Try.prog 117 #[.agg #[.func (Fn.func 112) #[] #[], iv (0)], .pointer (some ⟨b, 0, none⟩), iv f] w fun e w' => e = .returned (iv (val8 0 f x0 x1 x2 x3 x4 x5 x6 x7)) ∧ Below w.heap.size w w' := by
  have b0 := wt_bd (k := 0) (by omega) d0 d1 0 (by omega)
  have q0 := prod_bd l0 m0 b0
  obtain ⟨b0a, b0b⟩ := b0
  obtain ⟨q0a, q0b⟩ := q0
  have b1 := wt_bd (k := 0) (by omega) d0 d1 1 (by omega)
  have q1 := prod_bd l1 m1 b1
  obtain ⟨b1a, b1b⟩ := b1
  obtain ⟨q1a, q1b⟩ := q1
  have b2 := wt_bd (k := 0) (by omega) d0 d1 2 (by omega)
  have q2 := prod_bd l2 m2 b2
  obtain ⟨b2a, b2b⟩ := b2
  obtain ⟨q2a, q2b⟩ := q2
  have b3 := wt_bd (k := 0) (by omega) d0 d1 3 (by omega)
  have q3 := prod_bd l3 m3 b3
  obtain ⟨b3a, b3b⟩ := b3
  obtain ⟨q3a, q3b⟩ := q3
  have b4 := wt_bd (k := 0) (by omega) d0 d1 4 (by omega)
  have q4 := prod_bd l4 m4 b4
  obtain ⟨b4a, b4b⟩ := b4
  obtain ⟨q4a, q4b⟩ := q4
  have b5 := wt_bd (k := 0) (by omega) d0 d1 5 (by omega)
  have q5 := prod_bd l5 m5 b5
  obtain ⟨b5a, b5b⟩ := b5
  obtain ⟨q5a, q5b⟩ := q5
  have b6 := wt_bd (k := 0) (by omega) d0 d1 6 (by omega)
  have q6 := prod_bd l6 m6 b6
  obtain ⟨b6a, b6b⟩ := b6
  obtain ⟨q6a, q6b⟩ := q6
  have b7 := wt_bd (k := 0) (by omega) d0 d1 7 (by omega)
  have q7 := prod_bd l7 m7 b7
  obtain ⟨b7a, b7b⟩ := b7
  obtain ⟨q7a, q7b⟩ := q7
  go_enter Try.func117, Try.ntmps117
  go_wp2_with (go_at_call 112; refine (none_any _ _).mono ?_; rintro e w1 ⟨rfl, hb1⟩)
  have hlt := bkLt hX
  have hz : w.heap.size < w1.heap.size := by have := hb1.size; simp at this; omega
  have hbw : w1.heap[w.heap.size]? = some (.cells #[.func (Fn.func 112) #[] #[], iv (0)] 90 (0, 0)) := (hb1.block _ (by simp)).trans (heap_alloc_new w _)
  have hX1 : w1.heap[b]? = some (.cells #[iv x0, iv x1, iv x2, iv x3, iv x4, iv x5, iv x6, iv x7] 107 (0, 0)) := (hb1.block b (by simp; omega)).trans ((Below.heap_alloc _ _ _ hlt).trans hX)
  go_loopw [8, 9, 18] (fun s a c wr => ∃ k : Nat, k ≤ 8 ∧ c = iv k ∧ s = iv (d8 x0 x1 x2 x3 x4 x5 x6 x7 (wt 0 f 0) (wt 0 f 1) (wt 0 f 2) (wt 0 f 3) (wt 0 f 4) (wt 0 f 5) (wt 0 f 6) (wt 0 f 7) k) ∧ a = iv (a8 (wt 0 f 0) (wt 0 f 1) (wt 0 f 2) (wt 0 f 3) (wt 0 f 4) (wt 0 f 5) (wt 0 f 6) (wt 0 f 7) k) ∧ wr.heap[b]? = some (.cells #[iv x0, iv x1, iv x2, iv x3, iv x4, iv x5, iv x6, iv x7] 107 (0, 0)) ∧ wr.heap[w.heap.size]? = some (.cells #[.func (Fn.func 112) #[] #[], iv (0)] 90 (0, 0)) ∧ wr.heap[w1.heap.size]? = some (.cells #[iv (wt 0 f 0), iv (wt 0 f 1), iv (wt 0 f 2), iv (wt 0 f 3), iv (wt 0 f 4), iv (wt 0 f 5), iv (wt 0 f 6), iv (wt 0 f 7)] 107 (0, 0)) ∧ Below w.heap.size w wr) (fun _ _ c _ => 8 - (intOf c).toNat)
  case atStart => exact ⟨0, by omega, rfl, rfl, rfl, (Below.heap_alloc _ _ _ (by omega)).trans hX1, (Below.heap_alloc _ _ _ (by omega)).trans hbw, heap_alloc_new w1 _, (((Below.refl _ _).alloc (Nat.le_refl _) _).trans (hb1.mono (by simp))).alloc (by omega) _⟩
  case round =>
    obtain ⟨k, hk, rfl, rfl, rfl, hA, hB, hC, hD⟩ := hrel
    clear hX hX1 hbw hb1
    rcases (by omega : k = 0 ∨ k = 1 ∨ k = 2 ∨ k = 3 ∨ k = 4 ∨ k = 5 ∨ k = 6 ∨ k = 7 ∨ k = 8) with rfl | rfl | rfl | rfl | rfl | rfl | rfl | rfl | rfl
    · have c0 : wr.cell? ⟨b, 0, none⟩ = some (iv x0) := (bkCell hA 0).trans rfl
      have c1 : wr.cell? ⟨w1.heap.size, 0, none⟩ = some (iv (wt 0 f 0)) := (bkCell hC 0).trans rfl
      simp only [d8_0, a8_0]
      go_wp2
      go_quiet (fail)
      go_wp2
      exact ⟨⟨1, by omega, rfl, rfl, rfl, hA, hB, hC, bdN hD _⟩, by simp [intOf]⟩
    · have c0 : wr.cell? ⟨b, 1, none⟩ = some (iv x1) := (bkCell hA 1).trans rfl
      have c1 : wr.cell? ⟨w1.heap.size, 1, none⟩ = some (iv (wt 0 f 1)) := (bkCell hC 1).trans rfl
      simp only [d8_1, a8_1]
      go_wp2
      go_quiet (fail)
      go_wp2
      exact ⟨⟨2, by omega, rfl, rfl, rfl, hA, hB, hC, bdN hD _⟩, by simp [intOf]⟩
    · have c0 : wr.cell? ⟨b, 2, none⟩ = some (iv x2) := (bkCell hA 2).trans rfl
      have c1 : wr.cell? ⟨w1.heap.size, 2, none⟩ = some (iv (wt 0 f 2)) := (bkCell hC 2).trans rfl
      simp only [d8_2, a8_2]
      go_wp2
      go_quiet (fail)
      go_wp2
      exact ⟨⟨3, by omega, rfl, rfl, rfl, hA, hB, hC, bdN hD _⟩, by simp [intOf]⟩
    · have c0 : wr.cell? ⟨b, 3, none⟩ = some (iv x3) := (bkCell hA 3).trans rfl
      have c1 : wr.cell? ⟨w1.heap.size, 3, none⟩ = some (iv (wt 0 f 3)) := (bkCell hC 3).trans rfl
      simp only [d8_3, a8_3]
      go_wp2
      go_quiet (fail)
      go_wp2
      exact ⟨⟨4, by omega, rfl, rfl, rfl, hA, hB, hC, bdN hD _⟩, by simp [intOf]⟩
    · have c0 : wr.cell? ⟨b, 4, none⟩ = some (iv x4) := (bkCell hA 4).trans rfl
      have c1 : wr.cell? ⟨w1.heap.size, 4, none⟩ = some (iv (wt 0 f 4)) := (bkCell hC 4).trans rfl
      simp only [d8_4, a8_4]
      go_wp2
      go_quiet (fail)
      go_wp2
      exact ⟨⟨5, by omega, rfl, rfl, rfl, hA, hB, hC, bdN hD _⟩, by simp [intOf]⟩
    · have c0 : wr.cell? ⟨b, 5, none⟩ = some (iv x5) := (bkCell hA 5).trans rfl
      have c1 : wr.cell? ⟨w1.heap.size, 5, none⟩ = some (iv (wt 0 f 5)) := (bkCell hC 5).trans rfl
      simp only [d8_5, a8_5]
      go_wp2
      go_quiet (fail)
      go_wp2
      exact ⟨⟨6, by omega, rfl, rfl, rfl, hA, hB, hC, bdN hD _⟩, by simp [intOf]⟩
    · have c0 : wr.cell? ⟨b, 6, none⟩ = some (iv x6) := (bkCell hA 6).trans rfl
      have c1 : wr.cell? ⟨w1.heap.size, 6, none⟩ = some (iv (wt 0 f 6)) := (bkCell hC 6).trans rfl
      simp only [d8_6, a8_6]
      go_wp2
      go_quiet (fail)
      go_wp2
      exact ⟨⟨7, by omega, rfl, rfl, rfl, hA, hB, hC, bdN hD _⟩, by simp [intOf]⟩
    · have c0 : wr.cell? ⟨b, 7, none⟩ = some (iv x7) := (bkCell hA 7).trans rfl
      have c1 : wr.cell? ⟨w1.heap.size, 7, none⟩ = some (iv (wt 0 f 7)) := (bkCell hC 7).trans rfl
      simp only [d8_7, a8_7]
      go_wp2
      go_quiet (fail)
      go_wp2
      exact ⟨⟨8, by omega, rfl, rfl, rfl, hA, hB, hC, bdN hD _⟩, by simp [intOf]⟩
    · have c2 : wr.cell? ⟨w.heap.size, 1, none⟩ = some (iv (0)) := (bkCell hB 1).trans rfl
      simp only [d8_8, a8_8]
      
      go_wp2
      all_goals go_ret
      all_goals first | exact ⟨rfl, hD⟩ | (rw [show val8 4 f x0 x1 x2 x3 x4 x5 x6 x7 = _ from if_pos ‹_›]; exact ⟨rfl, hD⟩) | (rw [show val8 4 f x0 x1 x2 x3 x4 x5 x6 x7 = _ from if_neg (Int.not_lt.mpr ‹_›)]; exact ⟨rfl, hD⟩)
set_option maxHeartbeats 4000000 in
theorem value_1 (f x0 x1 x2 x3 x4 x5 x6 x7 : Int) (d0 : 0 ≤ f) (d1 : f ≤ 255) (b : Nat) (w : World) (l0 : -32768 ≤ x0) (m0 : x0 ≤ 32767) (l1 : -32768 ≤ x1) (m1 : x1 ≤ 32767) (l2 : -32768 ≤ x2) (m2 : x2 ≤ 32767) (l3 : -32768 ≤ x3) (m3 : x3 ≤ 32767) (l4 : -32768 ≤ x4) (m4 : x4 ≤ 32767) (l5 : -32768 ≤ x5) (m5 : x5 ≤ 32767) (l6 : -32768 ≤ x6) (m6 : x6 ≤ 32767) (l7 : -32768 ≤ x7) (m7 : x7 ≤ 32767) (hX : w.heap[b]? = some (.cells #[iv x0, iv x1, iv x2, iv x3, iv x4, iv x5, iv x6, iv x7] 107 (0, 0))) :
    Calls Try.prog 117 #[.agg #[.func (Fn.func 113) #[] #[], iv (8)], .pointer (some ⟨b, 0, none⟩), iv f] w fun e w' => e = .returned (iv (val8 1 f x0 x1 x2 x3 x4 x5 x6 x7)) ∧ Below w.heap.size w w' := by
  have b0 := wt_bd (k := 1) (by omega) d0 d1 0 (by omega)
  have q0 := prod_bd l0 m0 b0
  obtain ⟨b0a, b0b⟩ := b0
  obtain ⟨q0a, q0b⟩ := q0
  have b1 := wt_bd (k := 1) (by omega) d0 d1 1 (by omega)
  have q1 := prod_bd l1 m1 b1
  obtain ⟨b1a, b1b⟩ := b1
  obtain ⟨q1a, q1b⟩ := q1
  have b2 := wt_bd (k := 1) (by omega) d0 d1 2 (by omega)
  have q2 := prod_bd l2 m2 b2
  obtain ⟨b2a, b2b⟩ := b2
  obtain ⟨q2a, q2b⟩ := q2
  have b3 := wt_bd (k := 1) (by omega) d0 d1 3 (by omega)
  have q3 := prod_bd l3 m3 b3
  obtain ⟨b3a, b3b⟩ := b3
  obtain ⟨q3a, q3b⟩ := q3
  have b4 := wt_bd (k := 1) (by omega) d0 d1 4 (by omega)
  have q4 := prod_bd l4 m4 b4
  obtain ⟨b4a, b4b⟩ := b4
  obtain ⟨q4a, q4b⟩ := q4
  have b5 := wt_bd (k := 1) (by omega) d0 d1 5 (by omega)
  have q5 := prod_bd l5 m5 b5
  obtain ⟨b5a, b5b⟩ := b5
  obtain ⟨q5a, q5b⟩ := q5
  have b6 := wt_bd (k := 1) (by omega) d0 d1 6 (by omega)
  have q6 := prod_bd l6 m6 b6
  obtain ⟨b6a, b6b⟩ := b6
  obtain ⟨q6a, q6b⟩ := q6
  have b7 := wt_bd (k := 1) (by omega) d0 d1 7 (by omega)
  have q7 := prod_bd l7 m7 b7
  obtain ⟨b7a, b7b⟩ := b7
  obtain ⟨q7a, q7b⟩ := q7
  go_enter Try.func117, Try.ntmps117
  go_wp2_with (go_at_call 113; refine (linear_any _ _ d0 d1).mono ?_; rintro e w1 ⟨rfl, hb1⟩)
  have hlt := bkLt hX
  have hz : w.heap.size < w1.heap.size := by have := hb1.size; simp at this; omega
  have hbw : w1.heap[w.heap.size]? = some (.cells #[.func (Fn.func 113) #[] #[], iv (8)] 90 (0, 0)) := (hb1.block _ (by simp)).trans (heap_alloc_new w _)
  have hX1 : w1.heap[b]? = some (.cells #[iv x0, iv x1, iv x2, iv x3, iv x4, iv x5, iv x6, iv x7] 107 (0, 0)) := (hb1.block b (by simp; omega)).trans ((Below.heap_alloc _ _ _ hlt).trans hX)
  go_loopw [8, 9, 18] (fun s a c wr => ∃ k : Nat, k ≤ 8 ∧ c = iv k ∧ s = iv (d8 x0 x1 x2 x3 x4 x5 x6 x7 (wt 1 f 0) (wt 1 f 1) (wt 1 f 2) (wt 1 f 3) (wt 1 f 4) (wt 1 f 5) (wt 1 f 6) (wt 1 f 7) k) ∧ a = iv (a8 (wt 1 f 0) (wt 1 f 1) (wt 1 f 2) (wt 1 f 3) (wt 1 f 4) (wt 1 f 5) (wt 1 f 6) (wt 1 f 7) k) ∧ wr.heap[b]? = some (.cells #[iv x0, iv x1, iv x2, iv x3, iv x4, iv x5, iv x6, iv x7] 107 (0, 0)) ∧ wr.heap[w.heap.size]? = some (.cells #[.func (Fn.func 113) #[] #[], iv (8)] 90 (0, 0)) ∧ wr.heap[w1.heap.size]? = some (.cells #[iv (wt 1 f 0), iv (wt 1 f 1), iv (wt 1 f 2), iv (wt 1 f 3), iv (wt 1 f 4), iv (wt 1 f 5), iv (wt 1 f 6), iv (wt 1 f 7)] 107 (0, 0)) ∧ Below w.heap.size w wr) (fun _ _ c _ => 8 - (intOf c).toNat)
  case atStart => exact ⟨0, by omega, rfl, rfl, rfl, (Below.heap_alloc _ _ _ (by omega)).trans hX1, (Below.heap_alloc _ _ _ (by omega)).trans hbw, heap_alloc_new w1 _, (((Below.refl _ _).alloc (Nat.le_refl _) _).trans (hb1.mono (by simp))).alloc (by omega) _⟩
  case round =>
    obtain ⟨k, hk, rfl, rfl, rfl, hA, hB, hC, hD⟩ := hrel
    clear hX hX1 hbw hb1
    rcases (by omega : k = 0 ∨ k = 1 ∨ k = 2 ∨ k = 3 ∨ k = 4 ∨ k = 5 ∨ k = 6 ∨ k = 7 ∨ k = 8) with rfl | rfl | rfl | rfl | rfl | rfl | rfl | rfl | rfl
    · have c0 : wr.cell? ⟨b, 0, none⟩ = some (iv x0) := (bkCell hA 0).trans rfl
      have c1 : wr.cell? ⟨w1.heap.size, 0, none⟩ = some (iv (wt 1 f 0)) := (bkCell hC 0).trans rfl
      simp only [d8_0, a8_0]
      go_wp2
      go_quiet (fail)
      go_wp2
      exact ⟨⟨1, by omega, rfl, rfl, rfl, hA, hB, hC, bdN hD _⟩, by simp [intOf]⟩
    · have c0 : wr.cell? ⟨b, 1, none⟩ = some (iv x1) := (bkCell hA 1).trans rfl
      have c1 : wr.cell? ⟨w1.heap.size, 1, none⟩ = some (iv (wt 1 f 1)) := (bkCell hC 1).trans rfl
      simp only [d8_1, a8_1]
      go_wp2
      go_quiet (fail)
      go_wp2
      exact ⟨⟨2, by omega, rfl, rfl, rfl, hA, hB, hC, bdN hD _⟩, by simp [intOf]⟩
    · have c0 : wr.cell? ⟨b, 2, none⟩ = some (iv x2) := (bkCell hA 2).trans rfl
      have c1 : wr.cell? ⟨w1.heap.size, 2, none⟩ = some (iv (wt 1 f 2)) := (bkCell hC 2).trans rfl
      simp only [d8_2, a8_2]
      go_wp2
      go_quiet (fail)
      go_wp2
      exact ⟨⟨3, by omega, rfl, rfl, rfl, hA, hB, hC, bdN hD _⟩, by simp [intOf]⟩
    · have c0 : wr.cell? ⟨b, 3, none⟩ = some (iv x3) := (bkCell hA 3).trans rfl
      have c1 : wr.cell? ⟨w1.heap.size, 3, none⟩ = some (iv (wt 1 f 3)) := (bkCell hC 3).trans rfl
      simp only [d8_3, a8_3]
      go_wp2
      go_quiet (fail)
      go_wp2
      exact ⟨⟨4, by omega, rfl, rfl, rfl, hA, hB, hC, bdN hD _⟩, by simp [intOf]⟩
    · have c0 : wr.cell? ⟨b, 4, none⟩ = some (iv x4) := (bkCell hA 4).trans rfl
      have c1 : wr.cell? ⟨w1.heap.size, 4, none⟩ = some (iv (wt 1 f 4)) := (bkCell hC 4).trans rfl
      simp only [d8_4, a8_4]
      go_wp2
      go_quiet (fail)
      go_wp2
      exact ⟨⟨5, by omega, rfl, rfl, rfl, hA, hB, hC, bdN hD _⟩, by simp [intOf]⟩
    · have c0 : wr.cell? ⟨b, 5, none⟩ = some (iv x5) := (bkCell hA 5).trans rfl
      have c1 : wr.cell? ⟨w1.heap.size, 5, none⟩ = some (iv (wt 1 f 5)) := (bkCell hC 5).trans rfl
      simp only [d8_5, a8_5]
      go_wp2
      go_quiet (fail)
      go_wp2
      exact ⟨⟨6, by omega, rfl, rfl, rfl, hA, hB, hC, bdN hD _⟩, by simp [intOf]⟩
    · have c0 : wr.cell? ⟨b, 6, none⟩ = some (iv x6) := (bkCell hA 6).trans rfl
      have c1 : wr.cell? ⟨w1.heap.size, 6, none⟩ = some (iv (wt 1 f 6)) := (bkCell hC 6).trans rfl
      simp only [d8_6, a8_6]
      go_wp2
      go_quiet (fail)
      go_wp2
      exact ⟨⟨7, by omega, rfl, rfl, rfl, hA, hB, hC, bdN hD _⟩, by simp [intOf]⟩
    · have c0 : wr.cell? ⟨b, 7, none⟩ = some (iv x7) := (bkCell hA 7).trans rfl
      have c1 : wr.cell? ⟨w1.heap.size, 7, none⟩ = some (iv (wt 1 f 7)) := (bkCell hC 7).trans rfl
      simp only [d8_7, a8_7]
      go_wp2
      go_quiet (fail)
      go_wp2
      exact ⟨⟨8, by omega, rfl, rfl, rfl, hA, hB, hC, bdN hD _⟩, by simp [intOf]⟩
    · have c2 : wr.cell? ⟨w.heap.size, 1, none⟩ = some (iv (8)) := (bkCell hB 1).trans rfl
      simp only [d8_8, a8_8]
      
      go_wp2
      all_goals go_ret
      all_goals first | exact ⟨rfl, hD⟩ | (rw [show val8 4 f x0 x1 x2 x3 x4 x5 x6 x7 = _ from if_pos ‹_›]; exact ⟨rfl, hD⟩) | (rw [show val8 4 f x0 x1 x2 x3 x4 x5 x6 x7 = _ from if_neg (Int.not_lt.mpr ‹_›)]; exact ⟨rfl, hD⟩)
set_option maxHeartbeats 4000000 in
theorem value_2 (f x0 x1 x2 x3 x4 x5 x6 x7 : Int) (d0 : 0 ≤ f) (d1 : f ≤ 255) (b : Nat) (w : World) (l0 : -32768 ≤ x0) (m0 : x0 ≤ 32767) (l1 : -32768 ≤ x1) (m1 : x1 ≤ 32767) (l2 : -32768 ≤ x2) (m2 : x2 ≤ 32767) (l3 : -32768 ≤ x3) (m3 : x3 ≤ 32767) (l4 : -32768 ≤ x4) (m4 : x4 ≤ 32767) (l5 : -32768 ≤ x5) (m5 : x5 ≤ 32767) (l6 : -32768 ≤ x6) (m6 : x6 ≤ 32767) (l7 : -32768 ≤ x7) (m7 : x7 ≤ 32767) (hX : w.heap[b]? = some (.cells #[iv x0, iv x1, iv x2, iv x3, iv x4, iv x5, iv x6, iv x7] 107 (0, 0))) :
    Calls Try.prog 117 #[.agg #[.func (Fn.func 114) #[] #[], iv (25)], .pointer (some ⟨b, 0, none⟩), iv f] w fun e w' => e = .returned (iv (val8 2 f x0 x1 x2 x3 x4 x5 x6 x7)) ∧ Below w.heap.size w w' := by
  have b0 := wt_bd (k := 2) (by omega) d0 d1 0 (by omega)
  have q0 := prod_bd l0 m0 b0
  obtain ⟨b0a, b0b⟩ := b0
  obtain ⟨q0a, q0b⟩ := q0
  have b1 := wt_bd (k := 2) (by omega) d0 d1 1 (by omega)
  have q1 := prod_bd l1 m1 b1
  obtain ⟨b1a, b1b⟩ := b1
  obtain ⟨q1a, q1b⟩ := q1
  have b2 := wt_bd (k := 2) (by omega) d0 d1 2 (by omega)
  have q2 := prod_bd l2 m2 b2
  obtain ⟨b2a, b2b⟩ := b2
  obtain ⟨q2a, q2b⟩ := q2
  have b3 := wt_bd (k := 2) (by omega) d0 d1 3 (by omega)
  have q3 := prod_bd l3 m3 b3
  obtain ⟨b3a, b3b⟩ := b3
  obtain ⟨q3a, q3b⟩ := q3
  have b4 := wt_bd (k := 2) (by omega) d0 d1 4 (by omega)
  have q4 := prod_bd l4 m4 b4
  obtain ⟨b4a, b4b⟩ := b4
  obtain ⟨q4a, q4b⟩ := q4
  have b5 := wt_bd (k := 2) (by omega) d0 d1 5 (by omega)
  have q5 := prod_bd l5 m5 b5
  obtain ⟨b5a, b5b⟩ := b5
  obtain ⟨q5a, q5b⟩ := q5
  have b6 := wt_bd (k := 2) (by omega) d0 d1 6 (by omega)
  have q6 := prod_bd l6 m6 b6
  obtain ⟨b6a, b6b⟩ := b6
  obtain ⟨q6a, q6b⟩ := q6
  have b7 := wt_bd (k := 2) (by omega) d0 d1 7 (by omega)
  have q7 := prod_bd l7 m7 b7
  obtain ⟨b7a, b7b⟩ := b7
  obtain ⟨q7a, q7b⟩ := q7
  go_enter Try.func117, Try.ntmps117
  go_wp2_with (go_at_call 114; refine (cubic_any _ _ d0 d1).mono ?_; rintro e w1 ⟨rfl, hb1⟩)
  have hlt := bkLt hX
  have hz : w.heap.size < w1.heap.size := by have := hb1.size; simp at this; omega
  have hbw : w1.heap[w.heap.size]? = some (.cells #[.func (Fn.func 114) #[] #[], iv (25)] 90 (0, 0)) := (hb1.block _ (by simp)).trans (heap_alloc_new w _)
  have hX1 : w1.heap[b]? = some (.cells #[iv x0, iv x1, iv x2, iv x3, iv x4, iv x5, iv x6, iv x7] 107 (0, 0)) := (hb1.block b (by simp; omega)).trans ((Below.heap_alloc _ _ _ hlt).trans hX)
  go_loopw [8, 9, 18] (fun s a c wr => ∃ k : Nat, k ≤ 8 ∧ c = iv k ∧ s = iv (d8 x0 x1 x2 x3 x4 x5 x6 x7 (wt 2 f 0) (wt 2 f 1) (wt 2 f 2) (wt 2 f 3) (wt 2 f 4) (wt 2 f 5) (wt 2 f 6) (wt 2 f 7) k) ∧ a = iv (a8 (wt 2 f 0) (wt 2 f 1) (wt 2 f 2) (wt 2 f 3) (wt 2 f 4) (wt 2 f 5) (wt 2 f 6) (wt 2 f 7) k) ∧ wr.heap[b]? = some (.cells #[iv x0, iv x1, iv x2, iv x3, iv x4, iv x5, iv x6, iv x7] 107 (0, 0)) ∧ wr.heap[w.heap.size]? = some (.cells #[.func (Fn.func 114) #[] #[], iv (25)] 90 (0, 0)) ∧ wr.heap[w1.heap.size]? = some (.cells #[iv (wt 2 f 0), iv (wt 2 f 1), iv (wt 2 f 2), iv (wt 2 f 3), iv (wt 2 f 4), iv (wt 2 f 5), iv (wt 2 f 6), iv (wt 2 f 7)] 107 (0, 0)) ∧ Below w.heap.size w wr) (fun _ _ c _ => 8 - (intOf c).toNat)
  case atStart => exact ⟨0, by omega, rfl, rfl, rfl, (Below.heap_alloc _ _ _ (by omega)).trans hX1, (Below.heap_alloc _ _ _ (by omega)).trans hbw, heap_alloc_new w1 _, (((Below.refl _ _).alloc (Nat.le_refl _) _).trans (hb1.mono (by simp))).alloc (by omega) _⟩
  case round =>
    obtain ⟨k, hk, rfl, rfl, rfl, hA, hB, hC, hD⟩ := hrel
    clear hX hX1 hbw hb1
    rcases (by omega : k = 0 ∨ k = 1 ∨ k = 2 ∨ k = 3 ∨ k = 4 ∨ k = 5 ∨ k = 6 ∨ k = 7 ∨ k = 8) with rfl | rfl | rfl | rfl | rfl | rfl | rfl | rfl | rfl
    · have c0 : wr.cell? ⟨b, 0, none⟩ = some (iv x0) := (bkCell hA 0).trans rfl
      have c1 : wr.cell? ⟨w1.heap.size, 0, none⟩ = some (iv (wt 2 f 0)) := (bkCell hC 0).trans rfl
      simp only [d8_0, a8_0]
      go_wp2
      go_quiet (fail)
      go_wp2
      exact ⟨⟨1, by omega, rfl, rfl, rfl, hA, hB, hC, bdN hD _⟩, by simp [intOf]⟩
    · have c0 : wr.cell? ⟨b, 1, none⟩ = some (iv x1) := (bkCell hA 1).trans rfl
      have c1 : wr.cell? ⟨w1.heap.size, 1, none⟩ = some (iv (wt 2 f 1)) := (bkCell hC 1).trans rfl
      simp only [d8_1, a8_1]
      go_wp2
      go_quiet (fail)
      go_wp2
      exact ⟨⟨2, by omega, rfl, rfl, rfl, hA, hB, hC, bdN hD _⟩, by simp [intOf]⟩
    · have c0 : wr.cell? ⟨b, 2, none⟩ = some (iv x2) := (bkCell hA 2).trans rfl
      have c1 : wr.cell? ⟨w1.heap.size, 2, none⟩ = some (iv (wt 2 f 2)) := (bkCell hC 2).trans rfl
      simp only [d8_2, a8_2]
      go_wp2
      go_quiet (fail)
      go_wp2
      exact ⟨⟨3, by omega, rfl, rfl, rfl, hA, hB, hC, bdN hD _⟩, by simp [intOf]⟩
    · have c0 : wr.cell? ⟨b, 3, none⟩ = some (iv x3) := (bkCell hA 3).trans rfl
      have c1 : wr.cell? ⟨w1.heap.size, 3, none⟩ = some (iv (wt 2 f 3)) := (bkCell hC 3).trans rfl
      simp only [d8_3, a8_3]
      go_wp2
      go_quiet (fail)
      go_wp2
      exact ⟨⟨4, by omega, rfl, rfl, rfl, hA, hB, hC, bdN hD _⟩, by simp [intOf]⟩
    · have c0 : wr.cell? ⟨b, 4, none⟩ = some (iv x4) := (bkCell hA 4).trans rfl
      have c1 : wr.cell? ⟨w1.heap.size, 4, none⟩ = some (iv (wt 2 f 4)) := (bkCell hC 4).trans rfl
      simp only [d8_4, a8_4]
      go_wp2
      go_quiet (fail)
      go_wp2
      exact ⟨⟨5, by omega, rfl, rfl, rfl, hA, hB, hC, bdN hD _⟩, by simp [intOf]⟩
    · have c0 : wr.cell? ⟨b, 5, none⟩ = some (iv x5) := (bkCell hA 5).trans rfl
      have c1 : wr.cell? ⟨w1.heap.size, 5, none⟩ = some (iv (wt 2 f 5)) := (bkCell hC 5).trans rfl
      simp only [d8_5, a8_5]
      go_wp2
      go_quiet (fail)
      go_wp2
      exact ⟨⟨6, by omega, rfl, rfl, rfl, hA, hB, hC, bdN hD _⟩, by simp [intOf]⟩
    · have c0 : wr.cell? ⟨b, 6, none⟩ = some (iv x6) := (bkCell hA 6).trans rfl
      have c1 : wr.cell? ⟨w1.heap.size, 6, none⟩ = some (iv (wt 2 f 6)) := (bkCell hC 6).trans rfl
      simp only [d8_6, a8_6]
      go_wp2
      go_quiet (fail)
      go_wp2
      exact ⟨⟨7, by omega, rfl, rfl, rfl, hA, hB, hC, bdN hD _⟩, by simp [intOf]⟩
    · have c0 : wr.cell? ⟨b, 7, none⟩ = some (iv x7) := (bkCell hA 7).trans rfl
      have c1 : wr.cell? ⟨w1.heap.size, 7, none⟩ = some (iv (wt 2 f 7)) := (bkCell hC 7).trans rfl
      simp only [d8_7, a8_7]
      go_wp2
      go_quiet (fail)
      go_wp2
      exact ⟨⟨8, by omega, rfl, rfl, rfl, hA, hB, hC, bdN hD _⟩, by simp [intOf]⟩
    · have c2 : wr.cell? ⟨w.heap.size, 1, none⟩ = some (iv (25)) := (bkCell hB 1).trans rfl
      simp only [d8_8, a8_8]
      
      go_wp2
      all_goals go_ret
      all_goals first | exact ⟨rfl, hD⟩ | (rw [show val8 4 f x0 x1 x2 x3 x4 x5 x6 x7 = _ from if_pos ‹_›]; exact ⟨rfl, hD⟩) | (rw [show val8 4 f x0 x1 x2 x3 x4 x5 x6 x7 = _ from if_neg (Int.not_lt.mpr ‹_›)]; exact ⟨rfl, hD⟩)
set_option maxHeartbeats 4000000 in
theorem value_3 (f x0 x1 x2 x3 x4 x5 x6 x7 : Int) (d0 : 0 ≤ f) (d1 : f ≤ 255) (b : Nat) (w : World) (l0 : -32768 ≤ x0) (m0 : x0 ≤ 32767) (l1 : -32768 ≤ x1) (m1 : x1 ≤ 32767) (l2 : -32768 ≤ x2) (m2 : x2 ≤ 32767) (l3 : -32768 ≤ x3) (m3 : x3 ≤ 32767) (l4 : -32768 ≤ x4) (m4 : x4 ≤ 32767) (l5 : -32768 ≤ x5) (m5 : x5 ≤ 32767) (l6 : -32768 ≤ x6) (m6 : x6 ≤ 32767) (l7 : -32768 ≤ x7) (m7 : x7 ≤ 32767) (hX : w.heap[b]? = some (.cells #[iv x0, iv x1, iv x2, iv x3, iv x4, iv x5, iv x6, iv x7] 107 (0, 0))) :
    Calls Try.prog 117 #[.agg #[.func (Fn.func 115) #[] #[], iv (17)], .pointer (some ⟨b, 0, none⟩), iv f] w fun e w' => e = .returned (iv (val8 3 f x0 x1 x2 x3 x4 x5 x6 x7)) ∧ Below w.heap.size w w' := by
  have b0 := wt_bd (k := 3) (by omega) d0 d1 0 (by omega)
  have q0 := prod_bd l0 m0 b0
  obtain ⟨b0a, b0b⟩ := b0
  obtain ⟨q0a, q0b⟩ := q0
  have b1 := wt_bd (k := 3) (by omega) d0 d1 1 (by omega)
  have q1 := prod_bd l1 m1 b1
  obtain ⟨b1a, b1b⟩ := b1
  obtain ⟨q1a, q1b⟩ := q1
  have b2 := wt_bd (k := 3) (by omega) d0 d1 2 (by omega)
  have q2 := prod_bd l2 m2 b2
  obtain ⟨b2a, b2b⟩ := b2
  obtain ⟨q2a, q2b⟩ := q2
  have b3 := wt_bd (k := 3) (by omega) d0 d1 3 (by omega)
  have q3 := prod_bd l3 m3 b3
  obtain ⟨b3a, b3b⟩ := b3
  obtain ⟨q3a, q3b⟩ := q3
  have b4 := wt_bd (k := 3) (by omega) d0 d1 4 (by omega)
  have q4 := prod_bd l4 m4 b4
  obtain ⟨b4a, b4b⟩ := b4
  obtain ⟨q4a, q4b⟩ := q4
  have b5 := wt_bd (k := 3) (by omega) d0 d1 5 (by omega)
  have q5 := prod_bd l5 m5 b5
  obtain ⟨b5a, b5b⟩ := b5
  obtain ⟨q5a, q5b⟩ := q5
  have b6 := wt_bd (k := 3) (by omega) d0 d1 6 (by omega)
  have q6 := prod_bd l6 m6 b6
  obtain ⟨b6a, b6b⟩ := b6
  obtain ⟨q6a, q6b⟩ := q6
  have b7 := wt_bd (k := 3) (by omega) d0 d1 7 (by omega)
  have q7 := prod_bd l7 m7 b7
  obtain ⟨b7a, b7b⟩ := b7
  obtain ⟨q7a, q7b⟩ := q7
  go_enter Try.func117, Try.ntmps117
  go_wp2_with (go_at_call 115; refine (quadratic_any _ _ d0 d1).mono ?_; rintro e w1 ⟨rfl, hb1⟩)
  have hlt := bkLt hX
  have hz : w.heap.size < w1.heap.size := by have := hb1.size; simp at this; omega
  have hbw : w1.heap[w.heap.size]? = some (.cells #[.func (Fn.func 115) #[] #[], iv (17)] 90 (0, 0)) := (hb1.block _ (by simp)).trans (heap_alloc_new w _)
  have hX1 : w1.heap[b]? = some (.cells #[iv x0, iv x1, iv x2, iv x3, iv x4, iv x5, iv x6, iv x7] 107 (0, 0)) := (hb1.block b (by simp; omega)).trans ((Below.heap_alloc _ _ _ hlt).trans hX)
  go_loopw [8, 9, 18] (fun s a c wr => ∃ k : Nat, k ≤ 8 ∧ c = iv k ∧ s = iv (d8 x0 x1 x2 x3 x4 x5 x6 x7 (wt 3 f 0) (wt 3 f 1) (wt 3 f 2) (wt 3 f 3) (wt 3 f 4) (wt 3 f 5) (wt 3 f 6) (wt 3 f 7) k) ∧ a = iv (a8 (wt 3 f 0) (wt 3 f 1) (wt 3 f 2) (wt 3 f 3) (wt 3 f 4) (wt 3 f 5) (wt 3 f 6) (wt 3 f 7) k) ∧ wr.heap[b]? = some (.cells #[iv x0, iv x1, iv x2, iv x3, iv x4, iv x5, iv x6, iv x7] 107 (0, 0)) ∧ wr.heap[w.heap.size]? = some (.cells #[.func (Fn.func 115) #[] #[], iv (17)] 90 (0, 0)) ∧ wr.heap[w1.heap.size]? = some (.cells #[iv (wt 3 f 0), iv (wt 3 f 1), iv (wt 3 f 2), iv (wt 3 f 3), iv (wt 3 f 4), iv (wt 3 f 5), iv (wt 3 f 6), iv (wt 3 f 7)] 107 (0, 0)) ∧ Below w.heap.size w wr) (fun _ _ c _ => 8 - (intOf c).toNat)
  case atStart => exact ⟨0, by omega, rfl, rfl, rfl, (Below.heap_alloc _ _ _ (by omega)).trans hX1, (Below.heap_alloc _ _ _ (by omega)).trans hbw, heap_alloc_new w1 _, (((Below.refl _ _).alloc (Nat.le_refl _) _).trans (hb1.mono (by simp))).alloc (by omega) _⟩
  case round =>
    obtain ⟨k, hk, rfl, rfl, rfl, hA, hB, hC, hD⟩ := hrel
    clear hX hX1 hbw hb1
    rcases (by omega : k = 0 ∨ k = 1 ∨ k = 2 ∨ k = 3 ∨ k = 4 ∨ k = 5 ∨ k = 6 ∨ k = 7 ∨ k = 8) with rfl | rfl | rfl | rfl | rfl | rfl | rfl | rfl | rfl
    · have c0 : wr.cell? ⟨b, 0, none⟩ = some (iv x0) := (bkCell hA 0).trans rfl
      have c1 : wr.cell? ⟨w1.heap.size, 0, none⟩ = some (iv (wt 3 f 0)) := (bkCell hC 0).trans rfl
      simp only [d8_0, a8_0]
      go_wp2
      go_quiet (fail)
      go_wp2
      exact ⟨⟨1, by omega, rfl, rfl, rfl, hA, hB, hC, bdN hD _⟩, by simp [intOf]⟩
    · have c0 : wr.cell? ⟨b, 1, none⟩ = some (iv x1) := (bkCell hA 1).trans rfl
      have c1 : wr.cell? ⟨w1.heap.size, 1, none⟩ = some (iv (wt 3 f 1)) := (bkCell hC 1).trans rfl
      simp only [d8_1, a8_1]
      go_wp2
      go_quiet (fail)
      go_wp2
      exact ⟨⟨2, by omega, rfl, rfl, rfl, hA, hB, hC, bdN hD _⟩, by simp [intOf]⟩
    · have c0 : wr.cell? ⟨b, 2, none⟩ = some (iv x2) := (bkCell hA 2).trans rfl
      have c1 : wr.cell? ⟨w1.heap.size, 2, none⟩ = some (iv (wt 3 f 2)) := (bkCell hC 2).trans rfl
      simp only [d8_2, a8_2]
      go_wp2
      go_quiet (fail)
      go_wp2
      exact ⟨⟨3, by omega, rfl, rfl, rfl, hA, hB, hC, bdN hD _⟩, by simp [intOf]⟩
    · have c0 : wr.cell? ⟨b, 3, none⟩ = some (iv x3) := (bkCell hA 3).trans rfl
      have c1 : wr.cell? ⟨w1.heap.size, 3, none⟩ = some (iv (wt 3 f 3)) := (bkCell hC 3).trans rfl
      simp only [d8_3, a8_3]
      go_wp2
      go_quiet (fail)
      go_wp2
      exact ⟨⟨4, by omega, rfl, rfl, rfl, hA, hB, hC, bdN hD _⟩, by simp [intOf]⟩
    · have c0 : wr.cell? ⟨b, 4, none⟩ = some (iv x4) := (bkCell hA 4).trans rfl
      have c1 : wr.cell? ⟨w1.heap.size, 4, none⟩ = some (iv (wt 3 f 4)) := (bkCell hC 4).trans rfl
      simp only [d8_4, a8_4]
      go_wp2
      go_quiet (fail)
      go_wp2
      exact ⟨⟨5, by omega, rfl, rfl, rfl, hA, hB, hC, bdN hD _⟩, by simp [intOf]⟩
    · have c0 : wr.cell? ⟨b, 5, none⟩ = some (iv x5) := (bkCell hA 5).trans rfl
      have c1 : wr.cell? ⟨w1.heap.size, 5, none⟩ = some (iv (wt 3 f 5)) := (bkCell hC 5).trans rfl
      simp only [d8_5, a8_5]
      go_wp2
      go_quiet (fail)
      go_wp2
      exact ⟨⟨6, by omega, rfl, rfl, rfl, hA, hB, hC, bdN hD _⟩, by simp [intOf]⟩
    · have c0 : wr.cell? ⟨b, 6, none⟩ = some (iv x6) := (bkCell hA 6).trans rfl
      have c1 : wr.cell? ⟨w1.heap.size, 6, none⟩ = some (iv (wt 3 f 6)) := (bkCell hC 6).trans rfl
      simp only [d8_6, a8_6]
      go_wp2
      go_quiet (fail)
      go_wp2
      exact ⟨⟨7, by omega, rfl, rfl, rfl, hA, hB, hC, bdN hD _⟩, by simp [intOf]⟩
    · have c0 : wr.cell? ⟨b, 7, none⟩ = some (iv x7) := (bkCell hA 7).trans rfl
      have c1 : wr.cell? ⟨w1.heap.size, 7, none⟩ = some (iv (wt 3 f 7)) := (bkCell hC 7).trans rfl
      simp only [d8_7, a8_7]
      go_wp2
      go_quiet (fail)
      go_wp2
      exact ⟨⟨8, by omega, rfl, rfl, rfl, hA, hB, hC, bdN hD _⟩, by simp [intOf]⟩
    · have c2 : wr.cell? ⟨w.heap.size, 1, none⟩ = some (iv (17)) := (bkCell hB 1).trans rfl
      simp only [d8_8, a8_8]
      
      go_wp2
      all_goals go_ret
      all_goals first | exact ⟨rfl, hD⟩ | (rw [show val8 4 f x0 x1 x2 x3 x4 x5 x6 x7 = _ from if_pos ‹_›]; exact ⟨rfl, hD⟩) | (rw [show val8 4 f x0 x1 x2 x3 x4 x5 x6 x7 = _ from if_neg (Int.not_lt.mpr ‹_›)]; exact ⟨rfl, hD⟩)
set_option maxHeartbeats 4000000 in
theorem value_4 (f x0 x1 x2 x3 x4 x5 x6 x7 : Int) (d0 : 0 ≤ f) (d1 : f ≤ 255) (b : Nat) (w : World) (l0 : -32768 ≤ x0) (m0 : x0 ≤ 32767) (l1 : -32768 ≤ x1) (m1 : x1 ≤ 32767) (l2 : -32768 ≤ x2) (m2 : x2 ≤ 32767) (l3 : -32768 ≤ x3) (m3 : x3 ≤ 32767) (l4 : -32768 ≤ x4) (m4 : x4 ≤ 32767) (l5 : -32768 ≤ x5) (m5 : x5 ≤ 32767) (l6 : -32768 ≤ x6) (m6 : x6 ≤ 32767) (l7 : -32768 ≤ x7) (m7 : x7 ≤ 32767) (hX : w.heap[b]? = some (.cells #[iv x0, iv x1, iv x2, iv x3, iv x4, iv x5, iv x6, iv x7] 107 (0, 0))) :
    Calls Try.prog 117 #[.agg #[.func (Fn.func 116) #[] #[], iv (-1)], .pointer (some ⟨b, 0, none⟩), iv f] w fun e w' => e = .returned (iv (val8 4 f x0 x1 x2 x3 x4 x5 x6 x7)) ∧ Below w.heap.size w w' := by
  have b0 := wt_bd (k := 4) (by omega) d0 d1 0 (by omega)
  have q0 := prod_bd l0 m0 b0
  obtain ⟨b0a, b0b⟩ := b0
  obtain ⟨q0a, q0b⟩ := q0
  have b1 := wt_bd (k := 4) (by omega) d0 d1 1 (by omega)
  have q1 := prod_bd l1 m1 b1
  obtain ⟨b1a, b1b⟩ := b1
  obtain ⟨q1a, q1b⟩ := q1
  have b2 := wt_bd (k := 4) (by omega) d0 d1 2 (by omega)
  have q2 := prod_bd l2 m2 b2
  obtain ⟨b2a, b2b⟩ := b2
  obtain ⟨q2a, q2b⟩ := q2
  have b3 := wt_bd (k := 4) (by omega) d0 d1 3 (by omega)
  have q3 := prod_bd l3 m3 b3
  obtain ⟨b3a, b3b⟩ := b3
  obtain ⟨q3a, q3b⟩ := q3
  have b4 := wt_bd (k := 4) (by omega) d0 d1 4 (by omega)
  have q4 := prod_bd l4 m4 b4
  obtain ⟨b4a, b4b⟩ := b4
  obtain ⟨q4a, q4b⟩ := q4
  have b5 := wt_bd (k := 4) (by omega) d0 d1 5 (by omega)
  have q5 := prod_bd l5 m5 b5
  obtain ⟨b5a, b5b⟩ := b5
  obtain ⟨q5a, q5b⟩ := q5
  have b6 := wt_bd (k := 4) (by omega) d0 d1 6 (by omega)
  have q6 := prod_bd l6 m6 b6
  obtain ⟨b6a, b6b⟩ := b6
  obtain ⟨q6a, q6b⟩ := q6
  have b7 := wt_bd (k := 4) (by omega) d0 d1 7 (by omega)
  have q7 := prod_bd l7 m7 b7
  obtain ⟨b7a, b7b⟩ := b7
  obtain ⟨q7a, q7b⟩ := q7
  go_enter Try.func117, Try.ntmps117
  go_wp2_with (go_at_call 116; refine (wide_any _ _ d0 d1).mono ?_; rintro e w1 ⟨rfl, hb1⟩)
  have hlt := bkLt hX
  have hz : w.heap.size < w1.heap.size := by have := hb1.size; simp at this; omega
  have hbw : w1.heap[w.heap.size]? = some (.cells #[.func (Fn.func 116) #[] #[], iv (-1)] 90 (0, 0)) := (hb1.block _ (by simp)).trans (heap_alloc_new w _)
  have hX1 : w1.heap[b]? = some (.cells #[iv x0, iv x1, iv x2, iv x3, iv x4, iv x5, iv x6, iv x7] 107 (0, 0)) := (hb1.block b (by simp; omega)).trans ((Below.heap_alloc _ _ _ hlt).trans hX)
  go_loopw [8, 9, 18] (fun s a c wr => ∃ k : Nat, k ≤ 8 ∧ c = iv k ∧ s = iv (d8 x0 x1 x2 x3 x4 x5 x6 x7 (wt 4 f 0) (wt 4 f 1) (wt 4 f 2) (wt 4 f 3) (wt 4 f 4) (wt 4 f 5) (wt 4 f 6) (wt 4 f 7) k) ∧ a = iv (a8 (wt 4 f 0) (wt 4 f 1) (wt 4 f 2) (wt 4 f 3) (wt 4 f 4) (wt 4 f 5) (wt 4 f 6) (wt 4 f 7) k) ∧ wr.heap[b]? = some (.cells #[iv x0, iv x1, iv x2, iv x3, iv x4, iv x5, iv x6, iv x7] 107 (0, 0)) ∧ wr.heap[w.heap.size]? = some (.cells #[.func (Fn.func 116) #[] #[], iv (-1)] 90 (0, 0)) ∧ wr.heap[w1.heap.size]? = some (.cells #[iv (wt 4 f 0), iv (wt 4 f 1), iv (wt 4 f 2), iv (wt 4 f 3), iv (wt 4 f 4), iv (wt 4 f 5), iv (wt 4 f 6), iv (wt 4 f 7)] 107 (0, 0)) ∧ Below w.heap.size w wr) (fun _ _ c _ => 8 - (intOf c).toNat)
  case atStart => exact ⟨0, by omega, rfl, rfl, rfl, (Below.heap_alloc _ _ _ (by omega)).trans hX1, (Below.heap_alloc _ _ _ (by omega)).trans hbw, heap_alloc_new w1 _, (((Below.refl _ _).alloc (Nat.le_refl _) _).trans (hb1.mono (by simp))).alloc (by omega) _⟩
  case round =>
    obtain ⟨k, hk, rfl, rfl, rfl, hA, hB, hC, hD⟩ := hrel
    clear hX hX1 hbw hb1
    rcases (by omega : k = 0 ∨ k = 1 ∨ k = 2 ∨ k = 3 ∨ k = 4 ∨ k = 5 ∨ k = 6 ∨ k = 7 ∨ k = 8) with rfl | rfl | rfl | rfl | rfl | rfl | rfl | rfl | rfl
    · have c0 : wr.cell? ⟨b, 0, none⟩ = some (iv x0) := (bkCell hA 0).trans rfl
      have c1 : wr.cell? ⟨w1.heap.size, 0, none⟩ = some (iv (wt 4 f 0)) := (bkCell hC 0).trans rfl
      simp only [d8_0, a8_0]
      go_wp2
      go_quiet (fail)
      go_wp2
      exact ⟨⟨1, by omega, rfl, rfl, rfl, hA, hB, hC, bdN hD _⟩, by simp [intOf]⟩
    · have c0 : wr.cell? ⟨b, 1, none⟩ = some (iv x1) := (bkCell hA 1).trans rfl
      have c1 : wr.cell? ⟨w1.heap.size, 1, none⟩ = some (iv (wt 4 f 1)) := (bkCell hC 1).trans rfl
      simp only [d8_1, a8_1]
      go_wp2
      go_quiet (fail)
      go_wp2
      exact ⟨⟨2, by omega, rfl, rfl, rfl, hA, hB, hC, bdN hD _⟩, by simp [intOf]⟩
    · have c0 : wr.cell? ⟨b, 2, none⟩ = some (iv x2) := (bkCell hA 2).trans rfl
      have c1 : wr.cell? ⟨w1.heap.size, 2, none⟩ = some (iv (wt 4 f 2)) := (bkCell hC 2).trans rfl
      simp only [d8_2, a8_2]
      go_wp2
      go_quiet (fail)
      go_wp2
      exact ⟨⟨3, by omega, rfl, rfl, rfl, hA, hB, hC, bdN hD _⟩, by simp [intOf]⟩
    · have c0 : wr.cell? ⟨b, 3, none⟩ = some (iv x3) := (bkCell hA 3).trans rfl
      have c1 : wr.cell? ⟨w1.heap.size, 3, none⟩ = some (iv (wt 4 f 3)) := (bkCell hC 3).trans rfl
      simp only [d8_3, a8_3]
      go_wp2
      go_quiet (fail)
      go_wp2
      exact ⟨⟨4, by omega, rfl, rfl, rfl, hA, hB, hC, bdN hD _⟩, by simp [intOf]⟩
    · have c0 : wr.cell? ⟨b, 4, none⟩ = some (iv x4) := (bkCell hA 4).trans rfl
      have c1 : wr.cell? ⟨w1.heap.size, 4, none⟩ = some (iv (wt 4 f 4)) := (bkCell hC 4).trans rfl
      simp only [d8_4, a8_4]
      go_wp2
      go_quiet (fail)
      go_wp2
      exact ⟨⟨5, by omega, rfl, rfl, rfl, hA, hB, hC, bdN hD _⟩, by simp [intOf]⟩
    · have c0 : wr.cell? ⟨b, 5, none⟩ = some (iv x5) := (bkCell hA 5).trans rfl
      have c1 : wr.cell? ⟨w1.heap.size, 5, none⟩ = some (iv (wt 4 f 5)) := (bkCell hC 5).trans rfl
      simp only [d8_5, a8_5]
      go_wp2
      go_quiet (fail)
      go_wp2
      exact ⟨⟨6, by omega, rfl, rfl, rfl, hA, hB, hC, bdN hD _⟩, by simp [intOf]⟩
    · have c0 : wr.cell? ⟨b, 6, none⟩ = some (iv x6) := (bkCell hA 6).trans rfl
      have c1 : wr.cell? ⟨w1.heap.size, 6, none⟩ = some (iv (wt 4 f 6)) := (bkCell hC 6).trans rfl
      simp only [d8_6, a8_6]
      go_wp2
      go_quiet (fail)
      go_wp2
      exact ⟨⟨7, by omega, rfl, rfl, rfl, hA, hB, hC, bdN hD _⟩, by simp [intOf]⟩
    · have c0 : wr.cell? ⟨b, 7, none⟩ = some (iv x7) := (bkCell hA 7).trans rfl
      have c1 : wr.cell? ⟨w1.heap.size, 7, none⟩ = some (iv (wt 4 f 7)) := (bkCell hC 7).trans rfl
      simp only [d8_7, a8_7]
      go_wp2
      go_quiet (fail)
      go_wp2
      exact ⟨⟨8, by omega, rfl, rfl, rfl, hA, hB, hC, bdN hD _⟩, by simp [intOf]⟩
    · have c2 : wr.cell? ⟨w.heap.size, 1, none⟩ = some (iv (-1)) := (bkCell hB 1).trans rfl
      simp only [d8_8, a8_8]
      have hs := by_fraction (p := fun f => 1 ≤ a8 (wt 4 f 0) (wt 4 f 1) (wt 4 f 2) (wt 4 f 3) (wt 4 f 4) (wt 4 f 5) (wt 4 f 6) (wt 4 f 7) 8) wt_sum4 d0 d1
      simp only [a8_8] at hs
      go_wp2
      all_goals go_ret
      all_goals first | exact ⟨rfl, hD⟩ | (rw [show val8 4 f x0 x1 x2 x3 x4 x5 x6 x7 = _ from if_pos ‹_›]; exact ⟨rfl, hD⟩) | (rw [show val8 4 f x0 x1 x2 x3 x4 x5 x6 x7 = _ from if_neg (Int.not_lt.mpr ‹_›)]; exact ⟨rfl, hD⟩)
end Go.Proofs.Ytnmoiolddfboiaa.SX

/- The works on a sample told: valid, and back again. -/
import Derived.Test.YtnmoiolddfboiaaSxS
namespace Go.Proofs.Ytnmoiolddfboiaa.SX
open Go.RowKit Go.Proofs.YtnmoiolddfboiaaW.PrintLast Go.Proofs.Ytnmoiolddfboiaa.TX Go.Proofs.Ytnmoiolddfboiaa.Cu
set_option linter.unusedVariables false
set_option linter.unusedSimpArgs false
theorem rev_valid {s : S} {n : Nat} {xs : Nat → Int} (hv : vS s n xs = true) : vS (revS s n) n (revF n xs) = true := by
  obtain ⟨h1, h2, h3, h4, h5, h6, h7, h8⟩ := vS_yes hv
  refine decide_eq_true ⟨h1, h2, h3, h4, fun i hi => h5 (n - 1 - i) (by omega), h6, ?_, ?_⟩
  · show LpOk s.a7 (if s.a7 = 0 then s.a8 else n - s.a9) (if s.a7 = 0 then s.a9 else n - s.a8) n
    unfold LpOk at h7 ⊢
    split <;> omega
  · show LpOk s.a10 (if s.a10 = 0 then s.a11 else n - s.a12) (if s.a10 = 0 then s.a12 else n - s.a11) n
    unfold LpOk at h8 ⊢
    split <;> omega
theorem rev_twice (s : S) (n : Nat) : revS (revS s n) n = s := by
  obtain ⟨nm, a2, a3, a4, a5, a6, a7, a8, a9, a10, a11, a12⟩ := s
  unfold revS
  simp only [S.mk.injEq, true_and]
  refine ⟨?_, ?_, ?_, ?_⟩ <;> (split <;> omega)
theorem revF_twice (n : Nat) (xs : Nat → Int) (i : Nat) (hi : i < n) : revF n (revF n xs) i = xs i := by
  unfold revF
  rw [show n - 1 - (n - 1 - i) = i by omega]
theorem cropK_ok {k a b : Int} {f t n : Nat} (h : LpOk k a b n) (hft : f ≤ t) (htn : t ≤ n) : LpOk (cropK k a b f t).1 (cropK k a b f t).2.1 (cropK k a b f t).2.2 (t - f) := by
  by_cases h0 : k = 0 ∨ a < f ∨ t < b
  · rw [show cropK k a b f t = (0, 0, 0) from if_pos h0]
    exact .inl ⟨rfl, rfl, rfl⟩
  · rw [show cropK k a b f t = (k, a - f, b - f) from if_neg h0]
    unfold LpOk at h ⊢
    simp only
    omega
theorem crop_valid {s : S} {n : Nat} {xs : Nat → Int} (hv : vS s n xs = true) {f t : Nat} (hft : f ≤ t) (htn : t ≤ n) : vS (cropS s f t) (t - f) (fun i => xs (f + i)) = true := by
  obtain ⟨h1, h2, h3, h4, h5, h6, h7, h8⟩ := vS_yes hv
  exact decide_eq_true ⟨h1, h2, by omega, h4, fun i hi => h5 (f + i) (by omega), h6, cropK_ok h7 hft htn, cropK_ok h8 hft htn⟩
theorem cropK_all {k a b : Int} {n : Nat} (h : LpOk k a b n) : cropK k a b (0 : Nat) n = (k, a, b) := by
  unfold LpOk at h
  by_cases h0 : k = 0 ∨ a < (0 : Nat) ∨ (n : Int) < b
  · rw [show cropK k a b (0 : Nat) n = (0, 0, 0) from if_pos h0]
    have : k = 0 ∧ a = 0 ∧ b = 0 := by omega
    rw [this.1, this.2.1, this.2.2]
  · rw [show cropK k a b (0 : Nat) n = (k, a - (0 : Nat), b - (0 : Nat)) from if_neg h0]
    have h1 : a - ((0 : Nat) : Int) = a := by omega
    have h2 : b - ((0 : Nat) : Int) = b := by omega
    rw [h1, h2]
theorem crop_all {s : S} {n : Nat} {xs : Nat → Int} (hv : vS s n xs = true) : cropS s (0 : Nat) n = s := by
  obtain ⟨h1, h2, h3, h4, h5, h6, h7, h8⟩ := vS_yes hv
  unfold cropS
  rw [cropK_all h7, cropK_all h8]
/-- a sample of other bits -/
def cvS (s : S) (bits : Int) : S := ⟨s.nm, bits, s.a3, s.a4, s.a5, s.a6, s.a7, s.a8, s.a9, s.a10, s.a11, s.a12⟩
def cvX (a2 bits x : Int) : Int := if a2 < bits then x * 256 else if bits < a2 then x / 256 else x
def cvF (a2 bits : Int) (xs : Nat → Int) (i : Nat) : Int := cvX a2 bits (xs i)
theorem cv_valid {s : S} {n : Nat} {xs : Nat → Int} (hv : vS s n xs = true) {bits : Int} (hb2 : bits = 8 ∨ bits = 16) : vS (cvS s bits) n (cvF s.a2 bits xs) = true := by
  obtain ⟨h1, h2, h3, h4, h5, h6, h7, h8⟩ := vS_yes hv
  refine decide_eq_true ⟨h1, hb2, h3, h4, fun i hi => ?_, h6, h7, h8⟩
  have h := h5 i hi
  show -hb bits ≤ cvX s.a2 bits (xs i) ∧ cvX s.a2 bits (xs i) ≤ hb bits - 1
  rcases h2 with e | e <;> rcases hb2 with e2 | e2 <;> rw [e] at h ⊢ <;> rw [e2]
  · exact h
  · change -128 ≤ xs i ∧ xs i ≤ 128 - 1 at h
    show -32768 ≤ xs i * 256 ∧ xs i * 256 ≤ 32768 - 1
    omega
  · change -32768 ≤ xs i ∧ xs i ≤ 32768 - 1 at h
    show -128 ≤ xs i / 256 ∧ xs i / 256 ≤ 128 - 1
    omega
  · exact h
theorem cv_back {s : S} (h : s.a2 = 8) : cvS (cvS s 16) 8 = s := by
  obtain ⟨nm, a2, a3, a4, a5, a6, a7, a8, a9, a10, a11, a12⟩ := s
  cases h
  rfl
theorem cvF_back (xs : Nat → Int) (i : Nat) : cvF 16 8 (cvF 8 16 xs) i = xs i := by
  unfold cvF cvX
  simp
/-- a frame made louder -/
def ampX (a2 num den x : Int) : Int := clp (hb a2) (nr (x * num) den)
def ampF (a2 num den : Int) (xs : Nat → Int) (i : Nat) : Int := ampX a2 num den (xs i)
theorem amp_valid {s : S} {n : Nat} {xs : Nat → Int} (hv : vS s n xs = true) (num den : Int) : vS s n (ampF s.a2 num den xs) = true := by
  obtain ⟨h1, h2, h3, h4, h5, h6, h7, h8⟩ := vS_yes hv
  refine decide_eq_true ⟨h1, h2, h3, h4, fun i hi => ?_, h6, h7, h8⟩
  show -hb s.a2 ≤ clp (hb s.a2) _ ∧ clp (hb s.a2) _ ≤ hb s.a2 - 1
  have : 1 ≤ hb s.a2 := by unfold hb; split <;> omega
  unfold clp
  split
  · omega
  · split <;> omega
end Go.Proofs.Ytnmoiolddfboiaa.SX

/- The tone chip: the plain laws of its noise, of a tone alone, and of its steps divided. -/
import Derived.Test.YtfpgidflaaefeaaChI
namespace Go.Proofs.Ytfpgidflaaefeaa.CH
open Go.RowKit Go.Proofs.YtfpgidflaaefeaaW.PrintLast
set_option linter.unusedVariables false
set_option linter.unusedSimpArgs false
/-- the noise's next bits, in Nat -/
def nzN (n : Nat) : Nat := n / 2 + 65536 * ((n ^^^ n / 8) % 2)
/-- 2 ^ k steps from n (forced at each step): where they end, and whether none of them stands at 1 -/
def chk : Nat → Nat → (Nat → Bool) → Bool
  | 0, n, f => match nzN n with
    | 0 => false
    | 1 => false
    | k + 2 => f (k + 2)
  | d + 1, n, f => chk d n fun m => chk d m f
def itN (n : Nat) : Nat → Nat
  | 0 => n
  | k + 1 => nzN (itN n k)
theorem itN_add (n a : Nat) : ∀ b, itN n (a + b) = itN (itN n a) b
  | 0 => rfl
  | b + 1 => by show nzN (itN n (a + b)) = nzN (itN (itN n a) b); rw [itN_add n a b]
theorem chk_says : ∀ (d n : Nat) (f : Nat → Bool), chk d n f = true → f (itN n (2 ^ d)) = true ∧ ∀ i, 1 ≤ i → i ≤ 2 ^ d → itN n i ≠ 1
  | 0, n, f, h => by
    have hh : (match nzN n with | 0 => false | 1 => false | k + 2 => f (k + 2)) = true := h
    have e : itN n (2 ^ 0) = nzN n := rfl
    rw [e]
    have : ∀ m, (match m with | 0 => false | 1 => false | k + 2 => f (k + 2)) = true → f m = true ∧ m ≠ 1 := by
      intro m hm
      match m, hm with
      | k + 2, hm => exact ⟨hm, by omega⟩
    obtain ⟨h1, h2⟩ := this _ hh
    exact ⟨h1, fun i hi hi' => by obtain rfl : i = 1 := by simp at hi'; omega
                                  exact h2⟩
  | d + 1, n, f, h => by
    obtain ⟨h1, h2⟩ := chk_says d n _ h
    obtain ⟨h3, h4⟩ := chk_says d _ f h1
    have e : (2 : Nat) ^ (d + 1) = 2 ^ d + 2 ^ d := by rw [Nat.pow_succ]; omega
    refine ⟨by rw [e, itN_add]; exact h3, fun i hi hi' => ?_⟩
    by_cases hl : i ≤ 2 ^ d
    · exact h2 i hi hl
    · obtain ⟨j, rfl⟩ : ∃ j, i = 2 ^ d + j := ⟨i - 2 ^ d, by omega⟩
      rw [itN_add]
      exact h4 j (by omega) (by omega)
theorem chk_all : (chk 16 1 fun a => chk 15 a fun a => chk 14 a fun a => chk 13 a fun a => chk 12 a fun a => chk 11 a fun a => chk 10 a fun a => chk 9 a fun a => chk 8 a fun a => chk 7 a fun a => chk 6 a fun a => chk 5 a fun a => chk 4 a fun a => chk 3 a fun a => chk 2 a fun a => chk 1 a fun a => nzN a == 1) = true := by decide +kernel
/-- a chain of such checks: how far one has come, and that nothing before stood at 1 -/
theorem chain {a s : Nat} (ha : a = itN 1 s) (hs : ∀ i, 1 ≤ i → i ≤ s → itN 1 i ≠ 1) {d : Nat} {f : Nat → Bool} (h : chk d a f = true) :
    f (itN 1 (s + 2 ^ d)) = true ∧ ∀ i, 1 ≤ i → i ≤ s + 2 ^ d → itN 1 i ≠ 1 := by
  subst ha
  obtain ⟨h1, h2⟩ := chk_says d _ f h
  rw [itN_add]
  refine ⟨h1, fun i hi hi' => ?_⟩
  by_cases hl : i ≤ s
  · exact hs i hi hl
  · obtain ⟨j, rfl⟩ : ∃ j, i = s + j := ⟨i - s, by omega⟩
    rw [itN_add]
    exact h2 j (by omega) (by omega)
theorem noise_period : itN 1 131071 = 1 ∧ ∀ i, 1 ≤ i → i ≤ 131070 → itN 1 i ≠ 1 := by
  have h0 := chain (a := 1) (s := 0) rfl (fun i h h' => absurd h (by omega)) chk_all
  have h1 := chain (s := 65536) rfl h0.2 h0.1
  have h2 := chain (s := 98304) rfl h1.2 h1.1
  have h3 := chain (s := 114688) rfl h2.2 h2.1
  have h4 := chain (s := 122880) rfl h3.2 h3.1
  have h5 := chain (s := 126976) rfl h4.2 h4.1
  have h6 := chain (s := 129024) rfl h5.2 h5.1
  have h7 := chain (s := 130048) rfl h6.2 h6.1
  have h8 := chain (s := 130560) rfl h7.2 h7.1
  have h9 := chain (s := 130816) rfl h8.2 h8.1
  have h10 := chain (s := 130944) rfl h9.2 h9.1
  have h11 := chain (s := 131008) rfl h10.2 h10.1
  have h12 := chain (s := 131040) rfl h11.2 h11.1
  have h13 := chain (s := 131056) rfl h12.2 h12.1
  have h14 := chain (s := 131064) rfl h13.2 h13.1
  have h15 := chain (s := 131068) rfl h14.2 h14.1
  obtain ⟨ha, hb⟩ := h15
  have hc : nzN (itN 1 131070) = 1 := by simpa using ha
  exact ⟨hc, hb⟩
theorem nz_nat {n : Nat} (h1 : n < 131072) : nz n = (nzN n : Nat) := by
  unfold nz nzN
  rw [i64_xor n ((n : Int) / 8) (by omega) (by omega) (by omega) (by omega)]
  have e : ((n : Int) / 8).toNat = n / 8 := by omega
  rw [e, Int.toNat_natCast]
  omega
end Go.Proofs.Ytfpgidflaaefeaa.CH

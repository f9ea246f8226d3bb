/- What the law on envelopes leaves to show beside its walk: the two step alike over shapes and places, so they tell one list. No condition. -/
import Derived.Test.YtfpgidflaaefeaaPGxf4
namespace Go.Proofs.Ytfpgidflaaefeaa.Pure
open Go.RowKit Go.Proofs.Ytfpgidflaaefeaa.PG Go.Proofs.YtfpgidflaaefeaaW.PrintWords Go.Proofs.YtfpgidflaaefeaaW.PrintLast Go.Proofs.YtfpgidflaaefeaaW.PrintMore
theorem w64 {x : Int} (h0 : -9223372036854775808 ≤ x) (h1 : x ≤ 9223372036854775807) : wrap64 x = x := by
  unfold wrap64
  omega
def SV (s p : Nat) : Int := (chip_shaped.f 4 s p).getD 0
def SN (s p : Nat) : Nat := ((chip_follows.f 4 s p).getD 0).toNat
theorem step_at : ∀ s : Nat, s < 16 → ∀ p : Nat, p < 64 → chip_shaped.f 4 s p = some (SV s p) ∧ orchestrionref15_Value.f 4 s p = some (SV s p) ∧ chip_follows.f 4 s p = some (SN s p : Int) ∧ orchestrionref15_Follows.f 4 s p = some (SN s p : Int) ∧ SN s p < 64 := by decide +kernel
theorem step_k {k s p : Nat} (hk : 4 ≤ k) (hs : s < 16) (hp : p < 64) : chip_shaped.f k s p = some (SV s p) ∧ orchestrionref15_Value.f k s p = some (SV s p) ∧ chip_follows.f k s p = some (SN s p : Int) ∧ orchestrionref15_Follows.f k s p = some (SN s p : Int) ∧ SN s p < 64 := by
  obtain ⟨h1, h2, h3, h4, h5⟩ := step_at s hs p hp
  exact ⟨at_rounds (g := fun k => chip_shaped.f k s p) (fun k => chip_shaped.mono _ _ k) hk h1, at_rounds (g := fun k => orchestrionref15_Value.f k s p) (fun k => orchestrionref15_Value.mono _ _ k) hk h2, at_rounds (g := fun k => chip_follows.f k s p) (fun k => chip_follows.mono _ _ k) hk h3, at_rounds (g := fun k => orchestrionref15_Follows.f k s p) (fun k => orchestrionref15_Follows.mono _ _ k) hk h4, h5⟩
def outs (s : Nat) : Nat → Nat → List Int
  | _, 0 => []
  | p, d + 1 => SV s p :: outs s (SN s p) d
theorem outs_len (s : Nat) : ∀ d p, (outs s p d).length = d
  | 0, _ => rfl
  | d + 1, p => by simp [outs, outs_len s d]
theorem prog_loop {s n : Nat} (hs : s < 16) (hn : n ≤ 200000) : ∀ (d i p k : Nat) (xs : List Int), i + d = n → p < 64 → xs.length = n → d + 5 ≤ k → chip_Envelope.l0 k s xs p n i = some (xs.take i ++ outs s p d, 0) := by
  intro d
  induction d with
  | zero =>
    intro i p k xs hi hp hx hk
    obtain ⟨k, rfl⟩ : ∃ q, k = q + 1 := ⟨k - 1, by omega⟩
    unfold chip_Envelope.l0
    rw [if_neg (by omega), List.take_of_length_le (by omega)]
    simp [outs]
  | succ d ih =>
    intro i p k xs hi hp hx hk
    obtain ⟨k, rfl⟩ : ∃ q, k = q + 1 := ⟨k - 1, by omega⟩
    obtain ⟨h1, h2, h3, h4, h5⟩ := step_k (k := k) (by omega) hs hp
    unfold chip_Envelope.l0
    rw [if_pos (by omega), h1, Option.bind_some, if_pos (by omega), if_pos (by omega), h3, Option.bind_some, w64 (by omega) (by omega)]
    show chip_Envelope.l0 k s (xs.set i (SV s p)) (SN s p) n ((i + 1 : Nat) : Int) = _
    rw [ih (i + 1) (SN s p) k (xs.set i (SV s p)) (by omega) h5 (by simp [hx]) (by omega)]
    have hl : i < xs.length := by omega
    congr 2
    rw [List.take_succ_eq_append_getElem (by simpa using hl), List.take_set_of_le (Nat.le_refl i)]
    simp [outs]
theorem ref_loop {s n : Nat} (hs : s < 16) (hn : n ≤ 200000) : ∀ (d i p k : Nat) (xs : List Int), i + d = n → p < 64 → xs.length = i → d + 5 ≤ k → orchestrionref15_Envelope.l0 k s n xs i p = some (xs ++ outs s p d, 0) := by
  intro d
  induction d with
  | zero =>
    intro i p k xs hi hp hx hk
    obtain ⟨k, rfl⟩ : ∃ q, k = q + 1 := ⟨k - 1, by omega⟩
    unfold orchestrionref15_Envelope.l0
    rw [if_neg (by omega)]
    simp [outs]
  | succ d ih =>
    intro i p k xs hi hp hx hk
    obtain ⟨k, rfl⟩ : ∃ q, k = q + 1 := ⟨k - 1, by omega⟩
    obtain ⟨h1, h2, h3, h4, h5⟩ := step_k (k := k) (by omega) hs hp
    unfold orchestrionref15_Envelope.l0
    rw [if_pos (by omega), h2, Option.bind_some, if_pos (by omega), h4, Option.bind_some, w64 (by omega) (by omega)]
    show orchestrionref15_Envelope.l0 k s n (xs ++ [SV s p]) ((i + 1 : Nat) : Int) (SN s p) = _
    rw [ih (i + 1) (SN s p) k (xs ++ [SV s p]) (by omega) h5 (by simp [hx]) (by omega)]
    simp [outs]
theorem equal_loop (l : List Int) (hl : l.length ≤ 1000) : ∀ (d i k : Nat), i + d = l.length → d < k → slices_Equal_int_int.l0 k l l (l.length : Int) i = some true := by
  intro d
  induction d with
  | zero =>
    intro i k hi hk
    obtain ⟨k, rfl⟩ : ∃ q, k = q + 1 := ⟨k - 1, by omega⟩
    unfold slices_Equal_int_int.l0
    rw [if_neg (by omega)]
  | succ d ih =>
    intro i k hi hk
    obtain ⟨k, rfl⟩ : ∃ q, k = q + 1 := ⟨k - 1, by omega⟩
    unfold slices_Equal_int_int.l0
    rw [if_pos (by omega), if_pos (by omega), if_pos (by omega), if_pos (by omega), if_pos rfl, w64 (by omega) (by omega)]
    exact ih (i + 1) k (by omega) (by omega)
theorem equal_same (l : List Int) (hl : l.length ≤ 1000) {k : Nat} (hk : 1001 ≤ k) : slices_Equal_int_int.f k l l = some true := by
  unfold slices_Equal_int_int.f
  rw [if_pos rfl]
  exact equal_loop l hl l.length 0 k (by omega) (by omega)
theorem j0_s (k : Nat) (x0 x1 : Int) (b : Bool) : chip_Envelope.j0 (k + 1) x0 x1 b = if b = true then (some (([] : List Int), 5)) else (if 0 ≤ x1 then (if (x1 : Int).toNat ≤ 35184372088832 then ((some (List.replicate (x1 : Int).toNat 0 : List Int)).bind fun y103 => (chip_Envelope.l0 k x0 y103 0 (y103.length : Int) 0)) else (none)) else (none)) := by rw [chip_Envelope.j0]
theorem r0_s (k : Nat) (x0 x1 : Int) (b : Bool) : orchestrionref15_Envelope.j0 (k + 1) x0 x1 b = if b = true then (some (([] : List Int), 5)) else (orchestrionref15_Envelope.l0 k x0 x1 ([] : List Int) 0 0) := by rw [orchestrionref15_Envelope.j0]
theorem in_eq (a b c : Int) : chip_in.f a b c = some (decide (b ≤ a ∧ a ≤ c)) := by
  unfold chip_in.f
  by_cases h : b ≤ a
  · rw [if_pos h]; simp [h]
  · rw [if_neg h]; simp [h]
theorem ref_in_eq (a b c : Int) : orchestrionref15_in.f a b c = some (decide (b ≤ a ∧ a ≤ c)) := by
  unfold orchestrionref15_in.f
  by_cases h : b ≤ a
  · rw [if_pos h]; simp [h]
  · rw [if_neg h]; simp [h]
theorem prog_fill {s n : Nat} (hs : s < 16) (hn : n ≤ 1000) : chip_Envelope.j0 (1999 + 1) s n false = some (outs s 0 n, 0) := by
  rw [j0_s, if_neg (by decide), if_pos (by omega), if_pos (by omega), Option.bind_some, List.length_replicate]
  show chip_Envelope.l0 1999 s (List.replicate n 0) (0 : Nat) n (0 : Nat) = _
  rw [prog_loop hs (by omega) n 0 0 1999 _ (by omega) (by omega) (by simp) (by omega)]; rfl
theorem ref_fill {s n : Nat} (hs : s < 16) (hn : n ≤ 1000) : orchestrionref15_Envelope.j0 (1999 + 1) s n false = some (outs s 0 n, 0) := by
  rw [r0_s, if_neg (by decide)]
  show orchestrionref15_Envelope.l0 1999 s n [] (0 : Nat) (0 : Nat) = _
  rw [ref_loop hs (by omega) n 0 0 1999 _ (by omega) (by omega) rfl (by omega)]; rfl
theorem env_same (a0 a1 : Int) (h : a1 ≤ 1000) : ∃ l e, l.length ≤ 1000 ∧ chip_Envelope.f (1999 + 1) a0 a1 = some (l, e) ∧ orchestrionref15_Envelope.f (1999 + 1) a0 a1 = some (l, e) := by
  unfold chip_Envelope.f orchestrionref15_Envelope.f
  rw [in_eq, ref_in_eq, Option.bind_some, Option.bind_some, in_eq, ref_in_eq, Option.bind_some, Option.bind_some]
  by_cases c1 : 0 ≤ a1 ∧ a1 ≤ 200000
  · rw [decide_eq_true c1, if_pos rfl, if_pos rfl]
    by_cases c0 : 0 ≤ a0 ∧ a0 ≤ 15
    · obtain ⟨n, rfl⟩ : ∃ n : Nat, a1 = n := ⟨a1.toNat, by omega⟩
      obtain ⟨s, rfl⟩ : ∃ n : Nat, a0 = n := ⟨a0.toNat, by omega⟩
      rw [decide_eq_true c0]
      exact ⟨outs s 0 n, 0, by rw [outs_len]; omega, prog_fill (by omega) (by omega), ref_fill (by omega) (by omega)⟩
    · rw [decide_eq_false c0]
      exact ⟨[], 5, by decide, by show chip_Envelope.j0 (1999 + 1) a0 a1 true = _; rw [j0_s, if_pos rfl], by show orchestrionref15_Envelope.j0 (1999 + 1) a0 a1 true = _; rw [r0_s, if_pos rfl]⟩
  · rw [decide_eq_false c1, if_neg (by decide), if_neg (by decide)]
    exact ⟨[], 5, by decide, by rw [j0_s, if_pos rfl], by rw [r0_s, if_pos rfl]⟩
theorem ChipEnvelope : orchestrionlaw15_ChipEnvelope.Pure := by
  intro a0 a1 _ _
  refine ⟨1999 + 1, ?_⟩
  unfold orchestrionlaw15_ChipEnvelope.f
  by_cases c : a1 > 1000
  · rw [if_pos c]
  · obtain ⟨l, e, hl, h1, h2⟩ := env_same a0 a1 (by omega)
    rw [if_neg c, h1, h2, Option.bind_some, Option.bind_some, if_pos rfl, equal_same l hl (by omega)]; rfl
end Go.Proofs.Ytfpgidflaaefeaa.Pure

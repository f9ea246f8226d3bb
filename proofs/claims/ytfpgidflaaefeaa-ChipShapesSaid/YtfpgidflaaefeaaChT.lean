/- The tone chip's envelope, walked by hand, and the shapes' own laws. -/
import Derived.Test.YtfpgidflaaefeaaChK
namespace Go.Proofs.Ytfpgidflaaefeaa.CH
open Go.RowKit Go.Proofs.YtfpgidflaaefeaaW.PrintLast
set_option linter.unusedVariables false
set_option linter.unusedSimpArgs false
/-- an envelope's step after i steps -/
def ef (s : Int) : Nat → Int
  | 0 => 0
  | i + 1 => fol s (ef s i)
theorem ef_bd (s : Int) : ∀ i, 0 ≤ ef s i ∧ ef s i ≤ 63
  | 0 => by simp [ef]
  | i + 1 => fol_bd (ef_bd s i).1 (ef_bd s i).2
def ev (s : Int) (n : Nat) : List Int := (List.range n).map fun i => shv s (ef s i)
theorem ev_len (s : Int) (n : Nat) : (ev s n).length = n := by simp [ev]
theorem ev_succ (s : Int) (n : Nat) : ev s (n + 1) = ev s n ++ [shv s (ef s n)] := by simp [ev, List.range_succ]
theorem ev_at (s : Int) (n i : Nat) (h : i < n) : (ev s n).getD i 0 = shv s (ef s i) := by simp [ev, List.getD_eq_getElem?_getD, h]
def rowe (s : Int) (n k : Nat) : List Value := (ev s k).map iv ++ List.replicate (n - k) (iv 0)
theorem rowe_len (s : Int) (n k : Nat) (h : k ≤ n) : (rowe s n k).length = n := by simp [rowe, ev_len]; omega
theorem rowe_set (s : Int) (n k : Nat) (h : k < n) : (rowe s n k).set k (iv (shv s (ef s k))) = rowe s n (k + 1) := by
  unfold rowe
  rw [ev_succ, List.set_append, if_neg (by simp [ev_len])]
  simp only [List.length_map, ev_len, Nat.sub_self]
  rw [show n - k = (n - (k + 1)) + 1 by omega, List.replicate_succ, List.set_cons_zero]
  simp
theorem rowe_at (s : Int) (n k : Nat) (h : k < n) : (rowe s n k)[k]? = some (iv 0) := by
  unfold rowe
  rw [List.getElem?_append_right (by simp [ev_len])]
  simp only [List.length_map, ev_len, Nat.sub_self, List.getElem?_replicate]
  rw [if_pos (by omega)]
theorem rowe_end (s : Int) (n : Nat) : rowe s n n = (ev s n).map iv := by simp [rowe]
/-- the shapes that go round in 32 steps -/
theorem ef_32 (s : Int) (h : s = 8 ∨ s = 12) : ∀ i : Nat, ef s i = if i < 32 then (i : Int) else 32 + (i : Int) % 32
  | 0 => by simp [ef]
  | i + 1 => by
    have e := ef_32 s h i
    show fol s (ef s i) = _
    rw [e]
    unfold fol
    rcases h with rfl | rfl <;> (repeat' split) <;> omega
theorem ef_64 (s : Int) (h : s = 10 ∨ s = 14) : ∀ i : Nat, ef s i = (i : Int) % 64
  | 0 => by simp [ef]
  | i + 1 => by
    have e := ef_64 s h i
    show fol s (ef s i) = _
    rw [e]
    unfold fol
    rcases h with rfl | rfl <;> (repeat' split) <;> omega
theorem ef_1 (s : Int) (s0 : 0 ≤ s) (s1 : s ≤ 15) (h : s ≠ 8 ∧ s ≠ 12 ∧ s ≠ 10 ∧ s ≠ 14) : ∀ i : Nat, ef s i = if i < 63 then (i : Int) else 63
  | 0 => by simp [ef]
  | i + 1 => by
    have e := ef_1 s s0 s1 h i
    show fol s (ef s i) = _
    rw [e]
    unfold fol
    have hc : s / 8 % 2 = 0 ∨ s % 2 = 1 := by omega
    (repeat' split) <;> omega
theorem sh_32 (s : Int) (h : s = 8 ∨ s = 12) (i : Nat) : shv s (ef s (i + 32)) = shv s (ef s i) := by
  rw [ef_32 s h, ef_32 s h]
  unfold shv
  rcases h with rfl | rfl <;> simp <;> (repeat' split) <;> omega
theorem sh_64 (s : Int) (h : s = 10 ∨ s = 14) (i : Nat) : shv s (ef s (i + 64)) = shv s (ef s i) := by
  rw [ef_64 s h, ef_64 s h, show ((i + 64 : Nat) : Int) % 64 = (i : Int) % 64 by omega]
theorem sh_1 (s : Int) (s0 : 0 ≤ s) (s1 : s ≤ 15) (h : s ≠ 8 ∧ s ≠ 12 ∧ s ≠ 10 ∧ s ≠ 14) (i : Nat) (hi : 64 ≤ i) : shv s (ef s (i + 1)) = shv s (ef s i) := by
  rw [ef_1 s s0 s1 h, ef_1 s s0 s1 h, if_neg (by omega), if_neg (by omega)]
theorem sh_same (s : Int) (s0 : 0 ≤ s) (s1 : s ≤ 7) (i : Nat) : shv s (ef s i) = shv (s / 4 * 4) (ef (s / 4 * 4) i) := by
  rw [ef_1 s s0 (by omega) (by omega), ef_1 (s / 4 * 4) (by omega) (by omega) (by omega)]
  unfold shv
  have e1 : s / 4 * 4 / 4 % 2 = s / 4 % 2 := by omega
  have e2 : s / 8 % 2 = 0 := by omega
  have e3 : s / 4 * 4 / 8 % 2 = 0 := by omega
  rw [e1, e2, e3]
  simp only [if_true]
set_option maxHeartbeats 16000000 in
set_option maxRecDepth 100000 in
theorem env_any (s : Int) (s0 : 0 ≤ s) (s1 : s ≤ 15) (n : Nat) (m : Int) (hm : m = n) (hn : n ≤ 200000) (w : World) :
    Calls Try.prog 17 #[iv s, iv m] w fun e w' => ∃ g, e = .returned (.tuple #[.slice (some ⟨g, 0, none⟩) n n, iv 0]) ∧ w.heap.size ≤ g ∧ w'.ownsRow w.heap.size 3 1 (.slice (some ⟨g, 0, none⟩) n n) n ((ev s n).map iv) ∧ Below w.heap.size w w' := by
  subst hm
  obtain ⟨i0, hi, hz0, hz1, hz2⟩ := info_parts info3
  have hn0 : (0 : Int) ≤ n := by omega
  have hn1 : (n : Int) ≤ 200000 := by omega
  go_enter Try.func17, Try.ntmps17
  go_wp2_with (first
    | (go_at_call 35; (with_reducible refine (in_yes _ _ _ _ (by omega) (by omega)).mono ?_); rintro e w2 ⟨rfl, rfl⟩)
    | (at_make; refine wpList_make_full _ rfl _ _ 23 rfl w.heap.size 3 i0 (.int .i64 0) 1 Try.underlying23 hi hz0 hz1 .i64 .i64 _ _ n rfl rfl rfl rfl (by rw [hz2]; omega) (by unfold maxLen; omega) (by simp) ?_; intro w1 hown hgrow))
  have B1 : Below w.heap.size w w1 := (Below.refl _ _).grown hgrow (by simp) (by simp)
  clear hgrow
  have O1 := Lib.hid (ownN hown (ys := rowe s n 0) (by rw [Nat.mul_one]; exact (toList_madeCells_one _ _).trans (by simp [rowe, ev])))
  clear hown
  go_loopw [7, 21] (fun q v wr => ∃ k : Nat, k ≤ n ∧ v = iv k ∧ q = iv (ef s k) ∧ wr.ownsRow w.heap.size 3 1 (.slice (some ⟨w.heap.size, 0, none⟩) n n) n (rowe s n k) ∧ Below w.heap.size w wr) (fun _ v _ => n - (intOf v).toNat)
  case atStart => exact ⟨0, by omega, rfl, rfl, O1.out, B1⟩
  case round =>
    obtain ⟨k, hk, rfl, rfl, hO, hB⟩ := hrel
    clear O1 B1
    by_cases hlt : k < n
    · have hlt' : (k : Int) < (n : Int) := by omega
      have hk0 : (0 : Int) ≤ (k : Int) := by omega
      obtain ⟨t0, t1⟩ := ef_bd s k
      have c6 : wr.cell? ⟨w.heap.size, k, none⟩ = some (iv 0) := (hO.cellAt k (by omega)).trans (rowe_at s n k hlt)
      have f6 := hO.frozenAt k
      go_wp2_with (first
        | (go_at_call 36; (with_reducible refine (shaped_any s (ef s k) _ s0 s1 t0 t1).mono ?_); rintro e w4 ⟨rfl, rfl⟩)
        | (go_at_call 37; (with_reducible refine (follows_any s (ef s k) _ s0 s1 t0 t1).mono ?_); rintro e w4 ⟨rfl, rfl⟩))
      exact ⟨⟨k + 1, by omega, by go_num, rfl, ownN (hO.stored k _).1 (rowe_set s n k hlt), hB.setCell (by simp) _⟩, by simp [intOf]; omega⟩
    · obtain rfl : k = n := by omega
      rw [rowe_end] at hO
      go_wp2
      refine bodyPost_ret (results_tmp2 rfl _ _ _) rfl ⟨_, rfl, Nat.le_refl _, hO, hB⟩
end Go.Proofs.Ytfpgidflaaefeaa.CH

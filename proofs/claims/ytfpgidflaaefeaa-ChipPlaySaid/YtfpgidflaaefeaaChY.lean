/- A law about the tone chip: what a register log sounds like. -/
import Derived.Test.YtfpgidflaaefeaaChX
import Derived.Test.YtfpgidflaaefeaaChQ
namespace Go.Proofs.Ytfpgidflaaefeaa.CH
open Go.RowKit Go.Proofs.YtfpgidflaaefeaaW.PrintLast
set_option linter.unusedVariables false
set_option linter.unusedSimpArgs false
theorem logAt_nil (w : World) (a : Option Addr) : LogAt w a 0 (fun _ => none) (fun _ => 0) (fun _ => 0) 0 0 (fun _ => 0) (fun _ => 0) (fun _ _ => 0) where
  top h := by omega
  low h := by omega
  row r h := by omega
  at_ r h := by omega
  cell r h := by omega
theorem add_plain {w : World} {a : Addr} {v : Value} (i : Nat) (h : w.cell? (a.add i) = some v) : a.add i = ⟨a.block, a.off + i, none⟩ := by
  have hs := World.cell?_spot h
  obtain ⟨b, o, s⟩ := a
  unfold Addr.add at hs ⊢
  split <;> simp_all
theorem plain0 {w : World} {a : Addr} {v : Value} (h : w.cell? (a.add 0) = some v) : a = ⟨a.block, a.off, none⟩ := by
  have hs := World.cell?_spot h
  obtain ⟨b, o, s⟩ := a
  simp [Addr.add] at hs
  rw [hs]
theorem logAt_of {w : World} {a : Addr} {len cap : Nat} {A : Nat → Option Addr} {L C : Nat → Nat} {Z : Nat → List Int} (hl : len ≤ cap)
    (h : ∀ r, r < cap → w.cell? (a.add r) = some (.slice (A r) (L r) (C r)) ∧ L r ≤ C r ∧ (A r = none → C r = 0) ∧ ∀ a', A r = some a' → ∀ c, c < C r → w.cell? (a'.add c) = some (.int .i64 ((Z r).getD c 0))) :
    LogAt w (some a) len A L C a.block a.off (fun r => ((A r).getD ⟨0, 0, none⟩).block) (fun r => ((A r).getD ⟨0, 0, none⟩).off) (fun r c => (Z r).getD c 0) where
  top hp := congrArg some (plain0 (h 0 (by omega)).1)
  low hp := by
    have h0 := (h 0 (by omega)).1
    have := World.block_lt_of_cell? _ _ h0
    rwa [add_plain 0 h0] at this
  row r hr := by
    have h1 := (h r (by omega)).1
    rwa [add_plain r h1] at h1
  at_ r hr hp := by
    obtain ⟨h0, h1, h2, h3⟩ := h r (by omega)
    rcases hA : A r with _ | a'
    · have := h2 hA
      omega
    · have h4 := h3 a' hA 0 (by omega)
      refine ⟨congrArg some (plain0 h4), ?_⟩
      have := World.block_lt_of_cell? _ _ h4
      rwa [add_plain 0 h4] at this
  cell r hr c hc := by
    obtain ⟨h0, h1, h2, h3⟩ := h r (by omega)
    rcases hA : A r with _ | a'
    · have := h2 hA
      omega
    · have h4 := h3 a' hA c (by omega)
      rwa [add_plain c h4] at h4
theorem plays_both (a : Option Addr) (len cap : Nat) (A : Nat → Option Addr) (L C : Nat → Nat) (b off : Nat) (bb oo : Nat → Nat) (z : Nat → Nat → Int) (hlen : len ≤ 100) (hL : ∀ r, r < len → L r ≤ 40) (n : Int) (hn : n ≤ 100) :
    ∃ (N : Nat) (xs : List Int) (err : Int), N ≤ 10000 ∧ (∀ w, LogAt w a len A L C b off bb oo z → Calls Try.prog 28 #[.slice a len cap, iv n] w fun e w' => ∃ v, e = .returned (.tuple #[v, iv err]) ∧ w'.ownsRow w.heap.size 3 1 v N (xs.map iv) ∧ Below w.heap.size w w') ∧
      ∀ w, LogAt w a len A L C b off bb oo z → Calls Try.prog 29 #[.slice a len cap, iv n] w fun e w' => ∃ v, e = .returned (.tuple #[v, iv err]) ∧ w'.ownsRow w.heap.size 3 1 v N (xs.map iv) ∧ Below w.heap.size w w' := by
  have nil : ∀ (B : Nat) (w' : World), w'.ownsRow B 3 1 (.slice none 0 0) 0 (([] : List Int).map iv) := fun B w' => ⟨rfl, .inl ⟨rfl, rfl⟩⟩
  by_cases hG : Good L z len
  · by_cases h0 : len = 0
    · exact ⟨0, [], 0, by omega, fun w h => (play_zero a len cap A L C b off bb oo z w h hlen hG n h0).mono fun e w' hp => ⟨_, hp.1, nil _ _, hp.2⟩, fun w h => (rplay_zero a len cap A L C b off bb oo z w h hlen hL n hG h0).mono fun e w' hp => ⟨_, hp.1, nil _ _, hp.2⟩⟩
    · by_cases hn0 : n < 0
      · exact ⟨0, [], 5, by omega, fun w h => (play_neg a len cap A L C b off bb oo z w h hlen hG n (by omega) hn0).mono fun e w' hp => ⟨_, hp.1, nil _ _, hp.2⟩, fun w h => (rplay_neg a len cap A L C b off bb oo z w h hlen hL n hG (by omega) hn0).mono fun e w' hp => ⟨_, hp.1, nil _ _, hp.2⟩⟩
      · obtain ⟨m, rfl⟩ := Int.eq_ofNat_of_zero_le (by omega : 0 ≤ n)
        have hm : m * len ≤ 100 * 100 := Nat.mul_le_mul (by omega) hlen
        exact ⟨m * len, song z m len, 0, hm, fun w h => (play_fine a len cap A L C b off bb oo z w h hlen hG m (by omega) (by omega)), fun w h => rplay_fine a len cap A L C b off bb oo z w h hlen hL m (by omega) (by omega) hG⟩
  · exact ⟨0, [], 1, by omega, fun w h => (play_bad a len cap A L C b off bb oo z w h hlen hL n hG).mono fun e w' hp => ⟨_, hp.1, nil _ _, hp.2⟩, fun w h => (rplay_bad a len cap A L C b off bb oo z w h hlen hL n hG).mono fun e w' hp => ⟨_, hp.1, nil _ _, hp.2⟩⟩
theorem formsBoth {w : World} {B B' n : Nat} {v u : Value} {xs : List Int} (h : w.ownsRow B 3 1 v n (xs.map iv)) (h2 : w.ownsRow B' 3 1 u n (xs.map iv)) : ∃ A c D d, v = .slice A n c ∧ u = .slice D n d ∧
    (n = 0 ∨ ∃ g k, A = some ⟨g, 0, none⟩ ∧ D = some ⟨k, 0, none⟩ ∧ (∀ i, i < n → w.cell? ⟨g, i, none⟩ = some (iv (xs.getD i 0))) ∧ (∀ i, i < n → w.cell? ⟨k, i, none⟩ = some (iv (xs.getD i 0)))) := by
  obtain ⟨A, c, rfl, h3⟩ := ownForm h
  obtain ⟨D, d, rfl, h4⟩ := ownForm h2
  refine ⟨A, c, D, d, rfl, rfl, ?_⟩
  rcases h3 with h3 | ⟨g, h3, h5⟩
  · exact .inl h3
  · rcases h4 with h4 | ⟨k, h4, h6⟩
    · exact .inl h4
    · exact .inr ⟨g, k, h3, h4, h5, h6⟩
set_option maxHeartbeats 8000000 in
set_option maxRecDepth 100000 in
theorem play_any (a : Option Addr) (len cap : Nat) (A : Nat → Option Addr) (L C : Nat → Nat) (b off : Nat) (bb oo : Nat → Nat) (z : Nat → Nat → Int) (w : World) (h : LogAt w a len A L C b off bb oo z) (n : Int) :
    Calls Try.prog 11 #[.slice a len cap, iv n] w fun e w' => e = .returned (.bool true) ∧ Below w.heap.size w w' := by
  by_cases h1 : 100 < len
  · have d1 : decide (100 < (len : Int)) = true := decide_eq_true (by omega)
    go_enter Try.func11, Try.ntmps11
    go_wp2
    go_ret
    exact ⟨rfl, Below.refl _ _⟩
  have d1 : decide (100 < (len : Int)) = false := decide_eq_false (by omega)
  by_cases h2 : 100 < n
  · have d2 : decide (100 < n) = true := decide_eq_true h2
    go_enter Try.func11, Try.ntmps11
    go_wp2
    go_ret
    exact ⟨rfl, Below.refl _ _⟩
  have d2 : decide (100 < n) = false := decide_eq_false h2
  have H := Lib.hid h
  have HA := Lib.hid h.top
  clear h
  have H2 := Lib.hid h2
  clear h2
  go_enter Try.func11, Try.ntmps11
  go_upto_region 4 with (fail)
  go_loopw [20] (fun v wr => ∃ k : Nat, k ≤ len ∧ v = iv k ∧ (∀ r, r < k → L r ≤ 40) ∧ Below w.heap.size w wr) (fun v _ => len - (intOf v).toNat)
  case atStart => exact ⟨0, by omega, rfl, fun r hr => by omega, Below.refl _ _⟩
  case round =>
    obtain ⟨k, hk, rfl, hL, hB⟩ := hrel
    by_cases hlt : k < len
    · have hlt' : (k : Int) < (len : Int) := by omega
      have hk0 : (0 : Int) ≤ (k : Int) := by omega
      have hA := HA.out (by omega)
      subst hA
      have c0 := (hB.cell (p := ⟨b, off + k, none⟩) (H.out.low (by omega))).trans (H.out.row k hlt)
      by_cases h40 : 40 < L k
      · have g40 : decide (40 < (L k : Int)) = true := decide_eq_true (by omega)
        clear h40
        go_wp2
        go_ret
        exact ⟨rfl, hB⟩
      · have g40 : decide (40 < (L k : Int)) = false := decide_eq_false (by omega)
        have H40 := Lib.hid h40
        clear h40
        go_wp2
        exact ⟨⟨k + 1, by omega, by go_num, fun r hr => by
          rcases (by omega : r < k ∨ r = k) with h'' | rfl
          · exact hL r h''
          · have := H40.out; omega, hB⟩, by simp [intOf]; omega⟩
    · obtain rfl : k = len := by omega
      obtain ⟨N, xs, err, hN, P1, P2⟩ := plays_both a k cap A L C b off bb oo z (by omega) hL n (by have := H2.out; omega)
      have e0 : (err == err) = true := by simp
      have Q1 := Lib.hid P1
      have Q2 := Lib.hid P2
      clear P1 P2
      have hlt' : decide ((k : Int) < (k : Int)) = false := decide_eq_false (by omega)
      go_wp2_with (first
        | (go_at_call 28; (with_reducible refine (Q1.out _ (H.out.later hB)).mono ?_); rintro e w1 ⟨v1, rfl, O1, hb1⟩; have B1 := bdT hB hB.size hb1)
        | (go_at_call 29; (with_reducible refine (Q2.out _ (H.out.later B1)).mono ?_); rintro e w2 ⟨v2, rfl, O2, hb2⟩; have B2 := bdT B1 B1.size hb2; obtain ⟨A1, c1, A2, c2, rfl, rfl, hf⟩ := formsBoth (ownLater O1 hb2) O2; have HF := Lib.hid hf; clear O1 O2 hf)
        | (go_at_call 14; (with_reducible refine (equal_gen A1 A2 N c1 c2 xs (by omega) _ HF.out).mono ?_); rintro e w3 ⟨rfl, md, rfl⟩))
      go_ret
      exact ⟨rfl, bdN B2 _⟩
theorem play_law (A : Option Addr) (len cap : Nat) (w : World) (n : Int) (h : len = 0 ∨ ∃ (a : Addr) (B : Nat → Option Addr) (L C : Nat → Nat) (Z : Nat → List Int), A = some a ∧ len ≤ cap ∧ (∀ r, r < cap → w.cell? (a.add r) = some (.slice (B r) (L r) (C r)) ∧ L r ≤ C r ∧ (B r = none → C r = 0) ∧ ∀ a', B r = some a' → ∀ c, c < C r → w.cell? (a'.add c) = some (.int .i64 ((Z r).getD c 0))) ∧ ∀ r, r < cap → ∀ n ∈ Z r, (Lit.int .i64 n).wf = true) :
    Calls Try.prog 11 #[.slice A len cap, iv n] w fun e w' => e = .returned (.bool true) ∧ Below w.heap.size w w' := by
  rcases h with rfl | ⟨a, B, L, C, Z, rfl, hl, hr, _⟩
  · exact play_any A 0 cap _ _ _ _ _ _ _ _ w (logAt_nil w A) n
  · exact play_any (some a) len cap _ _ _ _ _ _ _ _ w (logAt_of hl hr) n
end Go.Proofs.Ytfpgidflaaefeaa.CH

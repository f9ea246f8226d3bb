/- The reference's step, tap and question whether a cursor stands. -/
import Derived.Test.YtnmoiolddfboiaaSxL
namespace Go.Proofs.Ytnmoiolddfboiaa.SX
open Go.RowKit Go.Proofs.YtnmoiolddfboiaaW.PrintLast Go.Proofs.Ytnmoiolddfboiaa.TX Go.Proofs.Ytnmoiolddfboiaa.Cu
set_option linter.unusedVariables false
set_option linter.unusedSimpArgs false
theorem move_doneR {s : S} {n : Nat} {c : Cur} {step : Int} {held : Bool} (h : c.done = true) : moveM s n c step held = c := by unfold moveM moveK; rw [if_pos h]
theorem stand_no (y : Int) (b : Bool) : stand (y, b, false) = Cur.over := rfl
theorem gone_k (s : S) (A : Option Addr) (n c0 : Nat) (ps fr step x sa E a b k : Int) (bk held : Bool) (hr : rgS s held = (k, a, b)) (hn : n ≤ 4096) (f1 : wrap64 (wrap64 (ps * 65536) + fr) = x) (f4 : wrap64 (a * 65536) = sa) (f5 : wrap64 (b * 65536) = E) (x0 : 0 ≤ x) (x1 : x ≤ 300000000) (s0 : 0 ≤ step) (s1 : step ≤ 300000000) (S0 : 0 ≤ sa) (S1 : sa ≤ 300000000) (E1 : sa ≤ E) (E2 : E ≤ 300000000) (hk : k = 0 ∨ (k = 1 ∨ k = 2) ∧ sa < E ∧ E ≤ 65536 * n) (w : World) :
    Calls Try.prog 64 #[.agg (s.cs A n c0), .agg (Cur.cs ⟨ps, fr, bk, false⟩), iv step, .bool held] w fun e w' => e = .returned (.agg (Cur.cs (stand (wayM k x step bk (65536 * n) sa (E - sa))))) ∧ Below w.heap.size w w' := by
  have eSE : sa + (E - sa) = E := by omega
  have back : ∀ (h : wayM k x step true (65536 * n) sa (E - sa) = (x - step, true, decide (step ≤ x))), (x < step → Calls Try.prog 64 #[.agg (s.cs A n c0), .agg (Cur.cs ⟨ps, fr, true, false⟩), iv step, .bool held] w fun e w' => e = .returned (.agg (Cur.cs Cur.over)) ∧ Below w.heap.size w w') → (step ≤ x → Calls Try.prog 64 #[.agg (s.cs A n c0), .agg (Cur.cs ⟨ps, fr, true, false⟩), iv step, .bool held] w fun e w' => e = .returned (.agg (Cur.cs (stand (x - step, true, true)))) ∧ Below w.heap.size w w') →
      Calls Try.prog 64 #[.agg (s.cs A n c0), .agg (Cur.cs ⟨ps, fr, true, false⟩), iv step, .bool held] w fun e w' => e = .returned (.agg (Cur.cs (stand (wayM k x step true (65536 * n) sa (E - sa))))) ∧ Below w.heap.size w w' := by
    intro h h1 h2
    rw [h]
    by_cases hz : x < step
    · rw [decide_eq_false (show ¬ step ≤ x by omega), stand_no]; exact h1 hz
    · rw [decide_eq_true (show step ≤ x by omega)]; exact h2 (by omega)
  have forth : ∀ (h : wayM k x step false (65536 * n) sa (E - sa) = (x + step, false, decide (x + step < 65536 * (n : Int)))), (65536 * (n : Int) ≤ x + step → Calls Try.prog 64 #[.agg (s.cs A n c0), .agg (Cur.cs ⟨ps, fr, false, false⟩), iv step, .bool held] w fun e w' => e = .returned (.agg (Cur.cs Cur.over)) ∧ Below w.heap.size w w') → (x + step < 65536 * (n : Int) → Calls Try.prog 64 #[.agg (s.cs A n c0), .agg (Cur.cs ⟨ps, fr, false, false⟩), iv step, .bool held] w fun e w' => e = .returned (.agg (Cur.cs (stand (x + step, false, true)))) ∧ Below w.heap.size w w') →
      Calls Try.prog 64 #[.agg (s.cs A n c0), .agg (Cur.cs ⟨ps, fr, false, false⟩), iv step, .bool held] w fun e w' => e = .returned (.agg (Cur.cs (stand (wayM k x step false (65536 * n) sa (E - sa))))) ∧ Below w.heap.size w w' := by
    intro h h1 h2
    rw [h]
    by_cases hz : x + step < 65536 * (n : Int)
    · rw [decide_eq_true hz]; exact h2 hz
    · rw [decide_eq_false hz, stand_no]; exact h1 (by omega)
  cases bk
  · rcases hk with rfl | ⟨rfl | rfl, h1, h2⟩
    · refine forth ?_ (fun hz => gone_f0o s A n c0 ps fr step x sa E a b held hr hn f1 f4 f5 x0 x1 s0 s1 S0 S1 E1 E2 hz w) (fun hz => gone_f0s s A n c0 ps fr step x sa E a b held hr hn f1 f4 f5 x0 x1 s0 s1 S0 S1 E1 E2 hz w)
      unfold wayM
      rw [if_neg (by decide), if_neg (by decide), if_neg (by decide)]
    · by_cases hc : E ≤ x + step
      · have e : wayM 1 x step false (65536 * n) sa (E - sa) = (sa + (x + step - sa) % (E - sa), false, true) := by
          unfold wayM
          rw [if_pos rfl, if_pos rfl, eSE, if_pos hc]
        rw [e]
        exact gone_f1w s A n c0 ps fr step x sa E a b held hr hn f1 f4 f5 x0 x1 s0 s1 S0 S1 E1 E2 hc (by omega) w
      · refine forth ?_ (fun hz => absurd hz (by omega)) (fun hz => gone_f1s s A n c0 ps fr step x sa E a b held hr hn f1 f4 f5 x0 x1 s0 s1 S0 S1 E1 E2 (by omega) hz w)
        unfold wayM
        rw [if_pos rfl, if_pos rfl, eSE, if_neg hc, decide_eq_true (by omega)]
    · by_cases hc : E ≤ x + step
      · have e : wayM 2 x step false (65536 * n) sa (E - sa) = (if (x + step - sa) % (2 * (E - sa)) < (E - sa) then (sa + (x + step - sa) % (2 * (E - sa)), false, true) else (sa + 2 * (E - sa) - 1 - (x + step - sa) % (2 * (E - sa)), true, true)) := by
          rw [way2F]
          unfold g2
          rw [eSE, if_neg (by omega)]
        rw [e]
        exact gone_f2t s A n c0 ps fr step x sa E a b held hr hn f1 f4 f5 x0 x1 s0 s1 S0 S1 E1 E2 hc (by omega) w
      · refine forth ?_ (fun hz => absurd hz (by omega)) (fun hz => gone_f2s s A n c0 ps fr step x sa E a b held hr hn f1 f4 f5 x0 x1 s0 s1 S0 S1 E1 E2 (by omega) hz w)
        rw [way2F]
        unfold g2
        rw [eSE, if_pos (by omega), decide_eq_true (by omega)]
  · rcases hk with rfl | ⟨rfl | rfl, h1, h2⟩
    · refine back ?_ (fun hz => gone_b0o s A n c0 ps fr step x sa E a b held hr hn f1 f4 f5 x0 x1 s0 s1 S0 S1 E1 E2 hz w) (fun hz => gone_b0s s A n c0 ps fr step x sa E a b held hr hn f1 f4 f5 x0 x1 s0 s1 S0 S1 E1 E2 hz w)
      unfold wayM
      rw [if_neg (by decide), if_neg (by decide), if_pos rfl]
    · by_cases hc : x < sa
      · refine back ?_ (fun hz => gone_b1ao s A n c0 ps fr step x sa E a b held hr hn f1 f4 f5 x0 x1 s0 s1 S0 S1 E1 E2 hc hz w) (fun hz => gone_b1as s A n c0 ps fr step x sa E a b held hr hn f1 f4 f5 x0 x1 s0 s1 S0 S1 E1 E2 hc hz w)
        unfold wayM
        rw [if_pos rfl, if_neg (show ¬ (true = false) by decide), if_pos hc, decide_eq_decide.2 (show 0 ≤ x - step ↔ step ≤ x by omega)]
      · by_cases hc2 : x - step < sa
        · have e : wayM 1 x step true (65536 * n) sa (E - sa) = (sa + (x - step - sa) % (E - sa), true, true) := by
            unfold wayM
            rw [if_pos rfl, if_neg (show ¬ (true = false) by decide), if_neg hc, if_pos hc2]
          rw [e]
          exact gone_b1w s A n c0 ps fr step x sa E a b held hr hn f1 f4 f5 x0 x1 s0 s1 S0 S1 E1 E2 (by omega) hc2 (by omega) w
        · refine back ?_ (fun hz => absurd hz (by omega)) (fun hz => gone_b1bs s A n c0 ps fr step x sa E a b held hr hn f1 f4 f5 x0 x1 s0 s1 S0 S1 E1 E2 (by omega) (by omega) hz w)
          unfold wayM
          rw [if_pos rfl, if_neg (show ¬ (true = false) by decide), if_neg hc, if_neg hc2, decide_eq_true (by omega)]
    · by_cases hc : x < sa
      · refine back ?_ (fun hz => gone_b2o s A n c0 ps fr step x sa E a b held hr hn f1 f4 f5 x0 x1 s0 s1 S0 S1 E1 E2 hc hz w) (fun hz => gone_b2s s A n c0 ps fr step x sa E a b held hr hn f1 f4 f5 x0 x1 s0 s1 S0 S1 E1 E2 hc hz w)
        unfold wayM
        rw [if_neg (by decide), if_pos rfl, if_pos ⟨rfl, hc⟩]
      · by_cases hz : x < E
        · have e : wayM 2 x step true (65536 * n) sa (E - sa) = (if (2 * (E - sa) - 1 - (x - sa) + step) % (2 * (E - sa)) < (E - sa) then (sa + (2 * (E - sa) - 1 - (x - sa) + step) % (2 * (E - sa)), false, true) else (sa + 2 * (E - sa) - 1 - (2 * (E - sa) - 1 - (x - sa) + step) % (2 * (E - sa)), true, true)) := by
            unfold wayM
            rw [if_neg (by decide), if_pos rfl, if_neg (fun h => hc h.2), if_neg (fun h => absurd h.1 (by decide)), eSE]
            simp only [if_true]
            rw [show (if x < E - 1 then x else E - 1) = x by split <;> omega]
          rw [e]
          exact gone_b2ta s A n c0 ps fr step x sa E a b held hr hn f1 f4 f5 x0 x1 s0 s1 S0 S1 E1 E2 (by omega) (by omega) hz w
        · have e : wayM 2 x step true (65536 * n) sa (E - sa) = (if (2 * (E - sa) - 1 - (E - 1 - sa) + step) % (2 * (E - sa)) < (E - sa) then (sa + (2 * (E - sa) - 1 - (E - 1 - sa) + step) % (2 * (E - sa)), false, true) else (sa + 2 * (E - sa) - 1 - (2 * (E - sa) - 1 - (E - 1 - sa) + step) % (2 * (E - sa)), true, true)) := by
            unfold wayM
            rw [if_neg (by decide), if_pos rfl, if_neg (fun h => hc h.2), if_neg (fun h => absurd h.1 (by decide)), eSE]
            simp only [if_true]
            rw [show (if x < E - 1 then x else E - 1) = E - 1 by split <;> omega]
          rw [e]
          exact gone_b2tb s A n c0 ps fr step x sa E a b held hr hn f1 f4 f5 x0 x1 s0 s1 S0 S1 E1 E2 (by omega) (by omega) (by omega) w
theorem gone_any (s : S) (A : Option Addr) (n c0 : Nat) (c : Cur) (step : Int) (held : Bool) (hL : Loops s n) (hc : CurOk n c) (hs : 0 ≤ step) (hs1 : step ≤ 268435456) (w : World) :
    Calls Try.prog 64 #[.agg (s.cs A n c0), .agg (Cur.cs c), iv step, .bool held] w fun e w' => e = .returned (.agg (Cur.cs (moveM s n c step held))) ∧ Below w.heap.size w w' := by
  obtain ⟨ps, fr, bk, dn⟩ := c
  cases dn
  · obtain ⟨hl, hz⟩ := loops_rg hL held
    have hn := hL.1
    unfold CurOk at hc
    rw [if_neg (show ¬ (false = true) by decide)] at hc
    simp only at hc
    obtain ⟨k, a, b, hr⟩ : ∃ k a b, rgS s held = (k, a, b) := ⟨_, _, _, rfl⟩
    rw [hr] at hl hz
    simp only at hl hz
    have hm : moveM s n ⟨ps, fr, bk, false⟩ step held = stand (wayM k (ps * 65536 + fr) step bk (65536 * n) (a * 65536) (b * 65536 - a * 65536)) := by
      unfold moveM moveK
      rw [hr, if_neg (show ¬ (false = true) by decide)]
      simp only
      rw [show (n : Int) * 65536 = 65536 * n by omega, show (b - a) * 65536 = b * 65536 - a * 65536 by omega]
    rw [hm]
    have hab : 0 ≤ a ∧ a ≤ b ∧ b ≤ 4096 := by
      rcases hl with h | h
      · have := hz h; omega
      · omega
    have q1 : wrap64 (wrap64 (ps * 65536) + fr) = ps * 65536 + fr := by rw [wrap_in (x := ps * 65536) (by omega) (by omega), wrap_in (by omega) (by omega)]
    have q2 : wrap64 (a * 65536) = a * 65536 := wrap_in (by omega) (by omega)
    have q3 : wrap64 (b * 65536) = b * 65536 := wrap_in (by omega) (by omega)
    have hq := Lib.hid (And.intro q1 (And.intro q2 q3))
    clear q1 q2 q3
    exact gone_k s A n c0 ps fr step (ps * 65536 + fr) (a * 65536) (b * 65536) a b k bk held hr hn hq.out.1 hq.out.2.1 hq.out.2.2 (by omega) (by omega) hs (by omega) (by omega) (by omega) (by omega) (by omega) (by rcases hl with h | ⟨h0, h1, h2, h3⟩; exact .inl h; exact .inr ⟨h0, by omega, by omega⟩) w
  · rw [show moveM s n ⟨ps, fr, bk, true⟩ step held = ⟨ps, fr, bk, true⟩ from move_doneR rfl]
    exact gone_done s A n c0 ps fr step bk held w
end Go.Proofs.Ytnmoiolddfboiaa.SX

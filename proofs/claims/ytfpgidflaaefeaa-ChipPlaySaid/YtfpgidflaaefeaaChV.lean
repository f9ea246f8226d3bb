/- A log of the chip's registers, and the test of it by the reference. -/
import Derived.Test.YtfpgidflaaefeaaChK
namespace Go.Proofs.Ytfpgidflaaefeaa.CH
open Go.RowKit Go.Proofs.YtfpgidflaaefeaaW.PrintLast
set_option linter.unusedVariables false
set_option linter.unusedSimpArgs false
/-- a log of len rows as it lies in memory -/
structure LogAt (w : World) (a : Option Addr) (len : Nat) (A : Nat → Option Addr) (L C : Nat → Nat) (b off : Nat) (bb oo : Nat → Nat) (z : Nat → Nat → Int) : Prop where
  top : 0 < len → a = some ⟨b, off, none⟩
  low : 0 < len → b < w.heap.size
  row : ∀ r, r < len → w.cell? ⟨b, off + r, none⟩ = some (.slice (A r) (L r) (C r))
  at_ : ∀ r, r < len → 0 < L r → A r = some ⟨bb r, oo r, none⟩ ∧ bb r < w.heap.size
  cell : ∀ r, r < len → ∀ c, c < L r → w.cell? ⟨bb r, oo r + c, none⟩ = some (iv (z r c))
theorem LogAt.later {w w1 : World} {a : Option Addr} {len : Nat} {A : Nat → Option Addr} {L C : Nat → Nat} {b off : Nat} {bb oo : Nat → Nat} {z : Nat → Nat → Int} (h : LogAt w a len A L C b off bb oo z) (hb : Below w.heap.size w w1) : LogAt w1 a len A L C b off bb oo z where
  top := h.top
  low hp := Nat.lt_of_lt_of_le (h.low hp) hb.size
  row r hr := (hb.cell (p := ⟨b, off + r, none⟩) (h.low (by omega))).trans (h.row r hr)
  at_ r hr hp := ⟨(h.at_ r hr hp).1, Nat.lt_of_lt_of_le (h.at_ r hr hp).2 hb.size⟩
  cell r hr c hc := (hb.cell (p := ⟨bb r, oo r + c, none⟩) (h.at_ r hr (by omega)).2).trans (h.cell r hr c hc)
/-- every row before r has fourteen bytes -/
def Good (L : Nat → Nat) (z : Nat → Nat → Int) (len : Nat) : Prop := ∀ r, r < len → L r = 14 ∧ ∀ c, c < 14 → 0 ≤ z r c ∧ z r c ≤ 255
set_option maxHeartbeats 8000000 in
set_option maxRecDepth 100000 in
theorem rightlog_any (a : Option Addr) (len cap : Nat) (A : Nat → Option Addr) (L C : Nat → Nat) (b off : Nat) (bb oo : Nat → Nat) (z : Nat → Nat → Int) (w : World) (h : LogAt w a len A L C b off bb oo z) (hlen : len ≤ 100) (hL : ∀ r, r < len → L r ≤ 40) :
    Calls Try.prog 55 #[.slice a len cap] w fun e w' => (∃ v, e = .returned (.bool v) ∧ (v = true ↔ Good L z len)) ∧ Below w.heap.size w w' := by
  have H := Lib.hid h
  have HL := Lib.hid hL
  have HA := Lib.hid h.top
  clear h hL
  have l0 : (0 : Int) ≤ (len : Int) := by omega
  go_enter Try.func55, Try.ntmps55
  go_upto_region 2 with (fail)
  go_loopw [9] (fun v wr => ∃ k : Nat, k ≤ len ∧ v = iv k ∧ Good L z k ∧ Below w.heap.size w wr) (fun v _ => len - (intOf v).toNat)
  case atStart => exact ⟨0, by omega, rfl, fun r hr => by omega, Below.refl _ _⟩
  case round =>
    obtain ⟨k, hk, rfl, hG, hB⟩ := hrel
    by_cases hlt : k < len
    · have hlt' : (k : Int) < (len : Int) := by omega
      have hk0 : (0 : Int) ≤ (k : Int) := by omega
      have hA := HA.out (by omega)
      subst hA
      have c0 := (hB.cell (p := ⟨b, off + k, none⟩) (H.out.low (by omega))).trans (H.out.row k hlt)
      by_cases h14 : L k = 14
      · have g14 : ((L k : Int) != 14) = false := by simp; omega
        have n14 : (0 : Int) ≤ 14 := by omega
        obtain ⟨ea, eb⟩ := H.out.at_ k hlt (by omega)
        have HE := Lib.hid h14
        rw [ea, h14] at c0
        clear h14 ea g14
        go_upto_region 7 with (fail)
        go_loopw [18] (fun v w2 => ∃ c : Nat, c ≤ 14 ∧ v = iv c ∧ (∀ c', c' < c → 0 ≤ z k c' ∧ z k c' ≤ 255) ∧ Below w.heap.size w w2) (fun v _ => 14 - (intOf v).toNat)
        case atStart => exact ⟨0, by omega, rfl, fun c hc => by omega, hB⟩
        case round =>
          clear hB c0
          obtain ⟨c, hc, rfl, hz, hB⟩ := hrel
          by_cases hc14 : c < 14
          · have hc0 : (0 : Int) ≤ (c : Int) := by omega
            have hc1 : (c : Int) < 14 := by omega
            have c1 := (hB.cell (p := ⟨bb k, oo k + c, none⟩) eb).trans (H.out.cell k hlt c (by have := HE.out; omega))
            by_cases hin : 0 ≤ z k c ∧ z k c ≤ 255
            · go_wp2_with (go_at_call 38; (with_reducible refine (rin_yes _ _ _ _ hin.1 hin.2).mono ?_); rintro e w4 ⟨rfl, rfl⟩)
              exact ⟨⟨c + 1, by omega, by go_num, fun c' h' => by
                rcases (by omega : c' < c ∨ c' = c) with h'' | rfl
                · exact hz c' h''
                · exact hin, hB⟩, by simp [intOf]; omega⟩
            · go_wp2_with (go_at_call 38; (with_reducible refine (rin_no _ _ _ _ (by omega)).mono ?_); rintro e w4 ⟨rfl, rfl⟩)
              go_ret
              exact ⟨⟨false, rfl, by simp only [Bool.false_eq_true, false_iff]; exact fun hg => hin ((hg k hlt).2 c hc14)⟩, hB⟩
          · obtain rfl : c = 14 := by omega
            go_wp2
            exact ⟨⟨k + 1, by omega, by go_num, fun r hr => by
              rcases (by omega : r < k ∨ r = k) with h'' | rfl
              · exact hG r h''
              · exact ⟨HE.out, hz⟩, hB⟩, by simp [intOf]; omega⟩
      · have g14 : ((L k : Int) != 14) = true := by simp; omega
        have H14 := Lib.hid h14
        clear h14
        go_wp2
        go_ret
        exact ⟨.inl ⟨rfl, fun hg => H14.out (hg k hlt).1⟩, hB⟩
    · obtain rfl : k = len := by omega
      go_wp2
      go_ret
      exact ⟨⟨true, rfl, by simp only [true_iff]; exact hG⟩, hB⟩
set_option maxHeartbeats 8000000 in
set_option maxRecDepth 100000 in
theorem play_bad (a : Option Addr) (len cap : Nat) (A : Nat → Option Addr) (L C : Nat → Nat) (b off : Nat) (bb oo : Nat → Nat) (z : Nat → Nat → Int) (w : World) (h : LogAt w a len A L C b off bb oo z) (hlen : len ≤ 100) (hL : ∀ r, r < len → L r ≤ 40) (n : Int) (hbad : ¬ Good L z len) :
    Calls Try.prog 28 #[.slice a len cap, iv n] w fun e w' => e = .returned (.tuple #[.slice none 0 0, iv 1]) ∧ Below w.heap.size w w' := by
  have H := Lib.hid h
  have HL := Lib.hid hL
  have HA := Lib.hid h.top
  clear h hL
  have l0 : (0 : Int) ≤ (len : Int) := by omega
  go_enter Try.func28, Try.ntmps28
  go_upto_region 2 with (fail)
  go_loopw [19] (fun v wr => ∃ k : Nat, k ≤ len ∧ v = iv k ∧ Good L z k ∧ Below w.heap.size w wr) (fun v _ => len - (intOf v).toNat)
  case atStart => exact ⟨0, by omega, rfl, fun r hr => by omega, Below.refl _ _⟩
  case round =>
    obtain ⟨k, hk, rfl, hG, hB⟩ := hrel
    by_cases hlt : k < len
    · have hlt' : (k : Int) < (len : Int) := by omega
      have hk0 : (0 : Int) ≤ (k : Int) := by omega
      have hA := HA.out (by omega)
      subst hA
      have c0 := (hB.cell (p := ⟨b, off + k, none⟩) (H.out.low (by omega))).trans (H.out.row k hlt)
      by_cases h14 : L k = 14
      · have g14 : ((L k : Int) != 14) = false := by simp; omega
        have n14 : (0 : Int) ≤ 14 := by omega
        obtain ⟨ea, eb⟩ := H.out.at_ k hlt (by omega)
        have HE := Lib.hid h14
        rw [ea, h14] at c0
        clear h14 ea g14
        go_upto_region 7 with (fail)
        go_loopw [28] (fun v w2 => ∃ c : Nat, c ≤ 14 ∧ v = iv c ∧ (∀ c', c' < c → 0 ≤ z k c' ∧ z k c' ≤ 255) ∧ Below w.heap.size w w2) (fun v _ => 14 - (intOf v).toNat)
        case atStart => exact ⟨0, by omega, rfl, fun c hc => by omega, hB⟩
        case round =>
          clear hB c0
          obtain ⟨c, hc, rfl, hz, hB⟩ := hrel
          by_cases hc14 : c < 14
          · have hc0 : (0 : Int) ≤ (c : Int) := by omega
            have hc1 : (c : Int) < 14 := by omega
            have c1 := (hB.cell (p := ⟨bb k, oo k + c, none⟩) eb).trans (H.out.cell k hlt c (by have := HE.out; omega))
            by_cases hin : 0 ≤ z k c ∧ z k c ≤ 255
            · go_wp2_with (go_at_call 35; (with_reducible refine (in_yes _ _ _ _ hin.1 hin.2).mono ?_); rintro e w4 ⟨rfl, rfl⟩)
              exact ⟨⟨c + 1, by omega, by go_num, fun c' h' => by
                rcases (by omega : c' < c ∨ c' = c) with h'' | rfl
                · exact hz c' h''
                · exact hin, hB⟩, by simp [intOf]; omega⟩
            · go_wp2_with (go_at_call 35; (with_reducible refine (in_no _ _ _ _ (by omega)).mono ?_); rintro e w4 ⟨rfl, rfl⟩)
              refine bodyPost_ret (results_tmp2 rfl _ _ _) rfl ⟨rfl, hB⟩
          · obtain rfl : c = 14 := by omega
            go_wp2
            exact ⟨⟨k + 1, by omega, by go_num, fun r hr => by
              rcases (by omega : r < k ∨ r = k) with h'' | rfl
              · exact hG r h''
              · exact ⟨HE.out, hz⟩, hB⟩, by simp [intOf]; omega⟩
      · have g14 : ((L k : Int) != 14) = true := by simp; omega
        have H14 := Lib.hid h14
        clear h14
        go_wp2
        refine bodyPost_ret (results_tmp2 rfl _ _ _) rfl ⟨rfl, hB⟩
    · obtain rfl : k = len := by omega
      exact absurd hG hbad
set_option maxHeartbeats 8000000 in
set_option maxRecDepth 100000 in
theorem play_zero (a : Option Addr) (len cap : Nat) (A : Nat → Option Addr) (L C : Nat → Nat) (b off : Nat) (bb oo : Nat → Nat) (z : Nat → Nat → Int) (w : World) (h : LogAt w a len A L C b off bb oo z) (hlen : len ≤ 100) (hG : Good L z len) (n : Int) (h0 : len = 0) :
    Calls Try.prog 28 #[.slice a len cap, iv n] w fun e w' => e = .returned (.tuple #[.slice none 0 0, iv 0]) ∧ Below w.heap.size w w' := by
  have H := Lib.hid h
  have HA := Lib.hid h.top
  have HG := Lib.hid hG
  clear h hG
  have l0 : (0 : Int) ≤ (len : Int) := by omega
  have H0 := Lib.hid h0
  clear h0
  go_enter Try.func28, Try.ntmps28
  go_upto_region 2 with (fail)
  go_loopw [19] (fun v wr => ∃ k : Nat, k ≤ len ∧ v = iv k ∧ Below w.heap.size w wr) (fun v _ => len - (intOf v).toNat)
  case atStart => exact ⟨0, by omega, rfl, Below.refl _ _⟩
  case round =>
    obtain ⟨k, hk, rfl, hB⟩ := hrel
    by_cases hlt : k < len
    · have hlt' : (k : Int) < (len : Int) := by omega
      have hk0 : (0 : Int) ≤ (k : Int) := by omega
      have hA := HA.out (by omega)
      subst hA
      have c0 := (hB.cell (p := ⟨b, off + k, none⟩) (H.out.low (by omega))).trans (H.out.row k hlt)
      have n14 : (0 : Int) ≤ 14 := by omega
      obtain ⟨ea, eb⟩ := H.out.at_ k hlt (by have := (HG.out k hlt).1; omega)
      rw [ea, (HG.out k hlt).1] at c0
      clear ea
      go_upto_region 7 with (fail)
      go_loopw [28] (fun v w2 => ∃ c : Nat, c ≤ 14 ∧ v = iv c ∧ Below w.heap.size w w2) (fun v _ => 14 - (intOf v).toNat)
      case atStart => exact ⟨0, by omega, rfl, hB⟩
      case round =>
        clear hB c0
        obtain ⟨c, hc, rfl, hB⟩ := hrel
        by_cases hc14 : c < 14
        · have hc0 : (0 : Int) ≤ (c : Int) := by omega
          have hc1 : (c : Int) < 14 := by omega
          have c1 := (hB.cell (p := ⟨bb k, oo k + c, none⟩) eb).trans (H.out.cell k hlt c (by have := (HG.out k hlt).1; omega))
          have hin := (HG.out k hlt).2 c hc14
          go_wp2_with (go_at_call 35; (with_reducible refine (in_yes _ _ _ _ hin.1 hin.2).mono ?_); rintro e w4 ⟨rfl, rfl⟩)
          exact ⟨⟨c + 1, by omega, by go_num, hB⟩, by simp [intOf]; omega⟩
        · obtain rfl : c = 14 := by omega
          go_wp2
          exact ⟨⟨k + 1, by omega, by go_num, hB⟩, by simp [intOf]; omega⟩
    · obtain rfl : k = len := by omega
      have h0 := H0.out
      subst h0
      go_wp2
      refine bodyPost_ret (results_tmp2 rfl _ _ _) rfl ⟨rfl, hB⟩
set_option maxHeartbeats 8000000 in
set_option maxRecDepth 100000 in
theorem play_neg (a : Option Addr) (len cap : Nat) (A : Nat → Option Addr) (L C : Nat → Nat) (b off : Nat) (bb oo : Nat → Nat) (z : Nat → Nat → Int) (w : World) (h : LogAt w a len A L C b off bb oo z) (hlen : len ≤ 100) (hG : Good L z len) (n : Int) (h0 : 0 < len) (hn : n < 0) :
    Calls Try.prog 28 #[.slice a len cap, iv n] w fun e w' => e = .returned (.tuple #[.slice none 0 0, iv 5]) ∧ Below w.heap.size w w' := by
  have H := Lib.hid h
  have HA := Lib.hid h.top
  have HG := Lib.hid hG
  clear h hG
  have l0 : (0 : Int) ≤ (len : Int) := by omega
  go_enter Try.func28, Try.ntmps28
  go_upto_region 2 with (fail)
  go_loopw [19] (fun v wr => ∃ k : Nat, k ≤ len ∧ v = iv k ∧ Below w.heap.size w wr) (fun v _ => len - (intOf v).toNat)
  case atStart => exact ⟨0, by omega, rfl, Below.refl _ _⟩
  case round =>
    obtain ⟨k, hk, rfl, hB⟩ := hrel
    by_cases hlt : k < len
    · have hlt' : (k : Int) < (len : Int) := by omega
      have hk0 : (0 : Int) ≤ (k : Int) := by omega
      have hA := HA.out (by omega)
      subst hA
      have c0 := (hB.cell (p := ⟨b, off + k, none⟩) (H.out.low (by omega))).trans (H.out.row k hlt)
      have n14 : (0 : Int) ≤ 14 := by omega
      obtain ⟨ea, eb⟩ := H.out.at_ k hlt (by have := (HG.out k hlt).1; omega)
      rw [ea, (HG.out k hlt).1] at c0
      clear ea
      go_upto_region 7 with (fail)
      go_loopw [28] (fun v w2 => ∃ c : Nat, c ≤ 14 ∧ v = iv c ∧ Below w.heap.size w w2) (fun v _ => 14 - (intOf v).toNat)
      case atStart => exact ⟨0, by omega, rfl, hB⟩
      case round =>
        clear hB c0
        obtain ⟨c, hc, rfl, hB⟩ := hrel
        by_cases hc14 : c < 14
        · have hc0 : (0 : Int) ≤ (c : Int) := by omega
          have hc1 : (c : Int) < 14 := by omega
          have c1 := (hB.cell (p := ⟨bb k, oo k + c, none⟩) eb).trans (H.out.cell k hlt c (by have := (HG.out k hlt).1; omega))
          have hin := (HG.out k hlt).2 c hc14
          go_wp2_with (go_at_call 35; (with_reducible refine (in_yes _ _ _ _ hin.1 hin.2).mono ?_); rintro e w4 ⟨rfl, rfl⟩)
          exact ⟨⟨c + 1, by omega, by go_num, hB⟩, by simp [intOf]; omega⟩
        · obtain rfl : c = 14 := by omega
          go_wp2
          exact ⟨⟨k + 1, by omega, by go_num, hB⟩, by simp [intOf]; omega⟩
    · obtain rfl : k = len := by omega
      have e0 : ((k : Int) == 0) = false := by simp; omega
      go_wp2_with (go_at_call 35; (with_reducible refine (in_no _ _ _ _ (by omega)).mono ?_); rintro e w4 ⟨rfl, rfl⟩)
      refine bodyPost_ret (results_tmp2 rfl _ _ _) rfl ⟨rfl, hB⟩
end Go.Proofs.Ytfpgidflaaefeaa.CH

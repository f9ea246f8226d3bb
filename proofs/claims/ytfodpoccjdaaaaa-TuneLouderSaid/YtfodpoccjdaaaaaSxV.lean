/- What a valid sample is, and that both packages ask just that. -/
import Derived.Test.YtfodpoccjdaaaaaTxD
namespace Go.Proofs.Ytfodpoccjdaaaaa.SX
open Go.RowKit Go.Proofs.YtfodpoccjdaaaaaW.PrintLast Go.Proofs.Ytfodpoccjdaaaaa.TX
set_option linter.unusedVariables false
set_option linter.unusedSimpArgs false
theorem wrap_in {x : Int} (h0 : -1000000000000000000 ≤ x) (h1 : x ≤ 1000000000000000000) : wrap64 x = x := by unfold wrap64; omega
/-- a loop of so many frames -/
def LpOk (k a b : Int) (n : Nat) : Prop := k = 0 ∧ a = 0 ∧ b = 0 ∨ (k = 1 ∨ k = 2) ∧ 0 ≤ a ∧ a < b ∧ b ≤ n
instance (k a b : Int) (n : Nat) : Decidable (LpOk k a b n) := by unfold LpOk; infer_instance
def lpB (k a b : Int) (n : Nat) : Bool := decide (LpOk k a b n)
def NameOk (nm : ByteArray) : Prop := ∀ i (h : i < nm.size), 32 ≤ (nm[i].toNat : Int) ∧ (nm[i].toNat : Int) ≤ 126
instance (nm : ByteArray) : Decidable (NameOk nm) := by unfold NameOk; infer_instance
def hb (b : Int) : Int := if b = 8 then 128 else 32768
def FrOk (h : Int) (n : Nat) (xs : Nat → Int) : Prop := ∀ i, i < n → -h ≤ xs i ∧ xs i ≤ h - 1
instance (h : Int) (n : Nat) (xs : Nat → Int) : Decidable (FrOk h n xs) := by unfold FrOk; infer_instance
def RgOk (s : S) : Prop := 1 ≤ s.a3 ∧ s.a3 ≤ 65535 ∧ 0 ≤ s.a4 ∧ s.a4 ≤ 64 ∧ -1 ≤ s.a5 ∧ s.a5 ≤ 256 ∧ -64 ≤ s.a6 ∧ s.a6 ≤ 63
instance (s : S) : Decidable (RgOk s) := by unfold RgOk; infer_instance
def VOk (s : S) (n : Nat) (xs : Nat → Int) : Prop := s.nm.size ≤ 22 ∧ (s.a2 = 8 ∨ s.a2 = 16) ∧ n ≤ 4096 ∧ NameOk s.nm ∧ FrOk (hb s.a2) n xs ∧ RgOk s ∧ LpOk s.a7 s.a8 s.a9 n ∧ LpOk s.a10 s.a11 s.a12 n
instance (s : S) (n : Nat) (xs : Nat → Int) : Decidable (VOk s n xs) := by unfold VOk; infer_instance
def vS (s : S) (n : Nat) (xs : Nat → Int) : Bool := decide (VOk s n xs)
theorem vS_yes {s : S} {n : Nat} {xs : Nat → Int} (h : vS s n xs = true) : VOk s n xs := of_decide_eq_true h
theorem loop_any (k a b : Int) (n : Nat) (w : World) : Calls Try.prog 153 #[iv k, iv a, iv b, iv n] w fun e w' => e = .returned (.bool (lpB k a b n)) ∧ w = w' := by
  by_cases k0 : k = 0
  · subst k0
    by_cases a0 : a = 0
    · have e1 : (a == 0) = true := by simp [a0]
      by_cases b0 : b = 0
      · rw [show lpB 0 a b n = true from decide_eq_true (by unfold LpOk; omega)]
        have e2 : (b == 0) = true := by simp [b0]
        clear a0 b0
        go_enter Try.func153, Try.ntmps153; go_wp2; go_ret; exact ⟨rfl, rfl⟩
      · rw [show lpB 0 a b n = false from decide_eq_false (by unfold LpOk; omega)]
        have e2 : (b == 0) = false := by simp [b0]
        clear a0 b0
        go_enter Try.func153, Try.ntmps153; go_wp2; go_ret; exact ⟨rfl, rfl⟩
    · rw [show lpB 0 a b n = false from decide_eq_false (by unfold LpOk; omega)]
      have e1 : (a == 0) = false := by simp [a0]
      clear a0
      go_enter Try.func153, Try.ntmps153; go_wp2; go_ret; exact ⟨rfl, rfl⟩
  by_cases k1 : k = 1
  · subst k1
    by_cases c1 : a < 0
    · rw [show lpB 1 a b n = false from decide_eq_false (by unfold LpOk; omega)]
      have d1 : decide (0 ≤ a) = false := decide_eq_false (by omega)
      go_enter Try.func153, Try.ntmps153; go_wp2; go_ret; exact ⟨rfl, rfl⟩
    · have d1 : decide (0 ≤ a) = true := decide_eq_true (by omega)
      by_cases c2 : a < b
      · have d2 : decide (a < b) = true := decide_eq_true c2
        by_cases c3 : b ≤ n
        · rw [show lpB 1 a b n = true from decide_eq_true (by unfold LpOk; omega)]
          have d3 : decide (b ≤ (n : Int)) = true := decide_eq_true c3
          go_enter Try.func153, Try.ntmps153; go_wp2; go_ret; exact ⟨rfl, rfl⟩
        · rw [show lpB 1 a b n = false from decide_eq_false (by unfold LpOk; omega)]
          have d3 : decide (b ≤ (n : Int)) = false := decide_eq_false c3
          go_enter Try.func153, Try.ntmps153; go_wp2; go_ret; exact ⟨rfl, rfl⟩
      · rw [show lpB 1 a b n = false from decide_eq_false (by unfold LpOk; omega)]
        have d2 : decide (a < b) = false := decide_eq_false c2
        go_enter Try.func153, Try.ntmps153; go_wp2; go_ret; exact ⟨rfl, rfl⟩
  by_cases k2 : k = 2
  · subst k2
    by_cases c1 : a < 0
    · rw [show lpB 2 a b n = false from decide_eq_false (by unfold LpOk; omega)]
      have d1 : decide (0 ≤ a) = false := decide_eq_false (by omega)
      go_enter Try.func153, Try.ntmps153; go_wp2; go_ret; exact ⟨rfl, rfl⟩
    · have d1 : decide (0 ≤ a) = true := decide_eq_true (by omega)
      by_cases c2 : a < b
      · have d2 : decide (a < b) = true := decide_eq_true c2
        by_cases c3 : b ≤ n
        · rw [show lpB 2 a b n = true from decide_eq_true (by unfold LpOk; omega)]
          have d3 : decide (b ≤ (n : Int)) = true := decide_eq_true c3
          go_enter Try.func153, Try.ntmps153; go_wp2; go_ret; exact ⟨rfl, rfl⟩
        · rw [show lpB 2 a b n = false from decide_eq_false (by unfold LpOk; omega)]
          have d3 : decide (b ≤ (n : Int)) = false := decide_eq_false c3
          go_enter Try.func153, Try.ntmps153; go_wp2; go_ret; exact ⟨rfl, rfl⟩
      · rw [show lpB 2 a b n = false from decide_eq_false (by unfold LpOk; omega)]
        have d2 : decide (a < b) = false := decide_eq_false c2
        go_enter Try.func153, Try.ntmps153; go_wp2; go_ret; exact ⟨rfl, rfl⟩
  rw [show lpB k a b n = false from decide_eq_false (by unfold LpOk; omega)]
  have e0 : (k == 0) = false := by simp [k0]
  have e1 : (k == 1) = false := by simp [k1]
  have e2 : (k == 2) = false := by simp [k2]
  clear k0 k1 k2
  go_enter Try.func153, Try.ntmps153; go_wp2; go_ret; exact ⟨rfl, rfl⟩
theorem rloop_any (k a b : Int) (n : Nat) (w : World) : Calls Try.prog 94 #[iv k, iv a, iv b, iv n] w fun e w' => e = .returned (.bool (lpB k a b n)) ∧ w = w' := by
  by_cases k0 : k = 0
  · subst k0
    by_cases a0 : a = 0
    · have e1 : (a == 0) = true := by simp [a0]
      by_cases b0 : b = 0
      · rw [show lpB 0 a b n = true from decide_eq_true (by unfold LpOk; omega)]
        have e2 : (b == 0) = true := by simp [b0]
        clear a0 b0
        go_enter Try.func94, Try.ntmps94; go_wp2; go_ret; exact ⟨rfl, rfl⟩
      · rw [show lpB 0 a b n = false from decide_eq_false (by unfold LpOk; omega)]
        have e2 : (b == 0) = false := by simp [b0]
        clear a0 b0
        go_enter Try.func94, Try.ntmps94; go_wp2; go_ret; exact ⟨rfl, rfl⟩
    · rw [show lpB 0 a b n = false from decide_eq_false (by unfold LpOk; omega)]
      have e1 : (a == 0) = false := by simp [a0]
      clear a0
      go_enter Try.func94, Try.ntmps94; go_wp2; go_ret; exact ⟨rfl, rfl⟩
  by_cases k1 : k = 1
  · subst k1
    by_cases c1 : a < 0
    · rw [show lpB 1 a b n = false from decide_eq_false (by unfold LpOk; omega)]
      have d1 : decide (0 ≤ a) = false := decide_eq_false (by omega)
      go_enter Try.func94, Try.ntmps94; go_wp2; go_ret; exact ⟨rfl, rfl⟩
    · have d1 : decide (0 ≤ a) = true := decide_eq_true (by omega)
      by_cases c2 : a < b
      · have d2 : decide (a < b) = true := decide_eq_true c2
        by_cases c3 : b ≤ n
        · rw [show lpB 1 a b n = true from decide_eq_true (by unfold LpOk; omega)]
          have d3 : decide (b ≤ (n : Int)) = true := decide_eq_true c3
          go_enter Try.func94, Try.ntmps94; go_wp2; go_ret; exact ⟨rfl, rfl⟩
        · rw [show lpB 1 a b n = false from decide_eq_false (by unfold LpOk; omega)]
          have d3 : decide (b ≤ (n : Int)) = false := decide_eq_false c3
          go_enter Try.func94, Try.ntmps94; go_wp2; go_ret; exact ⟨rfl, rfl⟩
      · rw [show lpB 1 a b n = false from decide_eq_false (by unfold LpOk; omega)]
        have d2 : decide (a < b) = false := decide_eq_false c2
        go_enter Try.func94, Try.ntmps94; go_wp2; go_ret; exact ⟨rfl, rfl⟩
  by_cases k2 : k = 2
  · subst k2
    by_cases c1 : a < 0
    · rw [show lpB 2 a b n = false from decide_eq_false (by unfold LpOk; omega)]
      have d1 : decide (0 ≤ a) = false := decide_eq_false (by omega)
      go_enter Try.func94, Try.ntmps94; go_wp2; go_ret; exact ⟨rfl, rfl⟩
    · have d1 : decide (0 ≤ a) = true := decide_eq_true (by omega)
      by_cases c2 : a < b
      · have d2 : decide (a < b) = true := decide_eq_true c2
        by_cases c3 : b ≤ n
        · rw [show lpB 2 a b n = true from decide_eq_true (by unfold LpOk; omega)]
          have d3 : decide (b ≤ (n : Int)) = true := decide_eq_true c3
          go_enter Try.func94, Try.ntmps94; go_wp2; go_ret; exact ⟨rfl, rfl⟩
        · rw [show lpB 2 a b n = false from decide_eq_false (by unfold LpOk; omega)]
          have d3 : decide (b ≤ (n : Int)) = false := decide_eq_false c3
          go_enter Try.func94, Try.ntmps94; go_wp2; go_ret; exact ⟨rfl, rfl⟩
      · rw [show lpB 2 a b n = false from decide_eq_false (by unfold LpOk; omega)]
        have d2 : decide (a < b) = false := decide_eq_false c2
        go_enter Try.func94, Try.ntmps94; go_wp2; go_ret; exact ⟨rfl, rfl⟩
  rw [show lpB k a b n = false from decide_eq_false (by unfold LpOk; omega)]
  have e0 : (k == 0) = false := by simp [k0]
  have e1 : (k == 1) = false := by simp [k1]
  have e2 : (k == 2) = false := by simp [k2]
  clear k0 k1 k2
  go_enter Try.func94, Try.ntmps94; go_wp2; go_ret; exact ⟨rfl, rfl⟩
set_option maxHeartbeats 4000000 in
set_option maxRecDepth 100000 in
theorem slimit_any (b h : Int) (hb : Bits b h) (w : World) : Calls Try.prog 152 #[iv b] w fun e w' => e = .returned (.tuple #[iv (-h), iv (h - 1)]) ∧ ∃ m, w' = w.drewN m := by
  rcases hb with ⟨rfl, rfl⟩ | ⟨rfl, rfl⟩ <;> (
    go_enter Try.func152, Try.ntmps152
    go_wp2
    go_quiet (fail)
    go_wp2
    go_ret2
    exact ⟨rfl, _, rfl⟩)
theorem fits_any (x b h : Int) (hb : Bits b h) (w : World) : Calls Try.prog 93 #[iv x, iv b] w fun e w' => e = .returned (.bool (decide (-h ≤ x ∧ x ≤ h - 1))) ∧ w = w' := by
  rcases hb with ⟨rfl, rfl⟩ | ⟨rfl, rfl⟩
  · by_cases c1 : -128 ≤ x
    · have d1 : decide (-128 ≤ x) = true := decide_eq_true c1
      by_cases c2 : x < 128
      · rw [decide_eq_true (show -128 ≤ x ∧ x ≤ 128 - 1 by omega)]
        have d2 : decide (x < 128) = true := decide_eq_true c2
        go_enter Try.func93, Try.ntmps93
        go_wp2
        go_ret
        exact ⟨rfl, rfl⟩
      · rw [decide_eq_false (show ¬ (-128 ≤ x ∧ x ≤ 128 - 1) by omega)]
        have d2 : decide (x < 128) = false := decide_eq_false c2
        go_enter Try.func93, Try.ntmps93
        go_wp2
        go_ret
        exact ⟨rfl, rfl⟩
    · rw [decide_eq_false (show ¬ (-128 ≤ x ∧ x ≤ 128 - 1) by omega)]
      have d1 : decide (-128 ≤ x) = false := decide_eq_false c1
      go_enter Try.func93, Try.ntmps93
      go_wp2
      go_ret
      exact ⟨rfl, rfl⟩
  · by_cases c1 : -32768 ≤ x
    · have d1 : decide (-32768 ≤ x) = true := decide_eq_true c1
      by_cases c2 : x < 32768
      · rw [decide_eq_true (show -32768 ≤ x ∧ x ≤ 32768 - 1 by omega)]
        have d2 : decide (x < 32768) = true := decide_eq_true c2
        go_enter Try.func93, Try.ntmps93
        go_wp2
        go_ret
        exact ⟨rfl, rfl⟩
      · rw [decide_eq_false (show ¬ (-32768 ≤ x ∧ x ≤ 32768 - 1) by omega)]
        have d2 : decide (x < 32768) = false := decide_eq_false c2
        go_enter Try.func93, Try.ntmps93
        go_wp2
        go_ret
        exact ⟨rfl, rfl⟩
    · rw [decide_eq_false (show ¬ (-32768 ≤ x ∧ x ≤ 32768 - 1) by omega)]
      have d1 : decide (-32768 ≤ x) = false := decide_eq_false c1
      go_enter Try.func93, Try.ntmps93
      go_wp2
      go_ret
      exact ⟨rfl, rfl⟩
set_option maxHeartbeats 4000000 in
set_option maxRecDepth 100000 in
theorem named_any (nm : ByteArray) (w : World) : Calls Try.prog 92 #[.string nm] w fun e w' => e = .returned (.bool (decide (nm.size ≤ 22 ∧ NameOk nm))) ∧ w = w' := by
  by_cases h0 : nm.size ≤ 22
  · have d0 : decide (22 < (nm.size : Int)) = false := decide_eq_false (by omega)
    have n0 : decide (22 < nm.size) = false := decide_eq_false (by omega)
    have H0 := Lib.hid h0
    obtain ⟨r, hr⟩ : ∃ r, decide (nm.size ≤ 22 ∧ NameOk nm) = r := ⟨_, rfl⟩
    rw [hr]
    have HR := Lib.hid hr
    clear hr
    go_enter Try.func92, Try.ntmps92
    go_upto_region 4 with (fail)
    clear d0 n0
    go_loop [3] (fun v => ∃ k : Nat, k ≤ nm.size ∧ v = iv k ∧ ∀ j (h : j < nm.size), j < k → 32 ≤ (nm[j].toNat : Int) ∧ (nm[j].toNat : Int) ≤ 126) (fun v => nm.size - (intOf v).toNat)
    case atStart => exact ⟨0, by omega, rfl, fun j h hj => by omega⟩
    case round =>
      obtain ⟨k, hk, rfl, hj⟩ := hrel
      have HJ := Lib.hid hj
      clear hj
      have l3 : (0 : Int) ≤ (k : Int) := by omega
      by_cases hlt : k < nm.size
      · have l4 : (k : Int) < (nm.size : Int) := by omega
        have hk1 : k < nm.size := hlt
        by_cases c1 : (nm[k].toNat : Int) < 32
        · have d1 : decide ((nm[k].toNat : Int) < 32) = true := decide_eq_true c1
          have n1 : decide (nm[k].toNat < 32) = true := decide_eq_true (by omega)
          obtain rfl : false = r := (decide_eq_false (fun h => by have := h.2 k hk1; omega)).symm.trans HR.out
          go_wp2
          go_ret
          exact ⟨rfl, rfl⟩
        · have d1 : decide ((nm[k].toNat : Int) < 32) = false := decide_eq_false c1
          have n1 : decide (nm[k].toNat < 32) = false := decide_eq_false (by omega)
          by_cases c2 : 126 < (nm[k].toNat : Int)
          · have d2 : decide (126 < (nm[k].toNat : Int)) = true := decide_eq_true c2
            have n2 : decide (126 < nm[k].toNat) = true := decide_eq_true (by omega)
            obtain rfl : false = r := (decide_eq_false (fun h => by have := h.2 k hk1; omega)).symm.trans HR.out
            go_wp2
            go_ret
            exact ⟨rfl, rfl⟩
          · have d2 : decide (126 < (nm[k].toNat : Int)) = false := decide_eq_false c2
            have n2 : decide (126 < nm[k].toNat) = false := decide_eq_false (by omega)
            have HOK := Lib.hid (show 32 ≤ (nm[k].toNat : Int) ∧ (nm[k].toNat : Int) ≤ 126 by omega)
            clear c1 c2
            go_wp2
            go_round
            case rel => exact ⟨k + 1, by omega, by go_num, fun j h hj => by
              rcases (by omega : j < k ∨ j = k) with e | rfl
              · exact HJ.out j h e
              · exact HOK.out⟩
            case measure => simp [intOf]; omega
      · obtain rfl : k = nm.size := by omega
        obtain rfl : true = r := (decide_eq_true (show nm.size ≤ 22 ∧ NameOk nm from ⟨H0.out, fun i h => HJ.out i h h⟩)).symm.trans HR.out
        go_wp2
        go_ret
        exact ⟨rfl, rfl⟩
  · rw [decide_eq_false (fun h => h0 h.1)]
    have d0 : decide (22 < (nm.size : Int)) = true := decide_eq_true (by omega)
    have n0 : decide (22 < nm.size) = true := decide_eq_true (by omega)
    clear h0
    go_enter Try.func92, Try.ntmps92
    go_wp2
    go_ret
    exact ⟨rfl, rfl⟩
end Go.Proofs.Ytfodpoccjdaaaaa.SX

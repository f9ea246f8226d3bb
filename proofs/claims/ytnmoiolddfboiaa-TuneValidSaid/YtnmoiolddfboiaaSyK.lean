/- The value at a cursor as the reference tells it. -/
import Derived.Test.YtnmoiolddfboiaaSyJ
import Derived.Test.YtnmoiolddfboiaaSyI
import Derived.Test.YtnmoiolddfboiaaSxP
namespace Go.Proofs.Ytnmoiolddfboiaa.SX
open Go.RowKit Go.Proofs.YtnmoiolddfboiaaW.PrintLast Go.Proofs.Ytnmoiolddfboiaa.TX Go.Proofs.Ytnmoiolddfboiaa.Cu
set_option linter.unusedVariables false
set_option linter.unusedSimpArgs false
set_option maxHeartbeats 4000000 in
set_option maxRecDepth 100000 in
theorem mfloordiv_any (a b : Int) (h0 : -1000000000000000 ≤ a) (h1 : a ≤ 1000000000000000) (hb : 0 < b) (hb2 : b ≤ 1000000000000000) (w : World) : Calls Try.prog 123 #[iv a, iv b] w fun e w' => e = .returned (iv (a / b)) ∧ w = w' := by
  have hq := tdiv_rem (a := a) hb
  have q2 : -1000000000000000 ≤ a.tdiv b ∧ a.tdiv b ≤ 1000000000000000 := by
    rcases Int.lt_or_le a 0 with ha | ha
    · obtain ⟨m, rfl⟩ : ∃ m, a = -m := ⟨-a, by omega⟩
      rw [Int.neg_tdiv, Int.tdiv_eq_ediv_of_nonneg (by omega)]
      have q0 : 0 ≤ m / b := Int.ediv_nonneg (by omega) (by omega)
      have q1 : m / b ≤ m := Int.ediv_le_self _ (by omega)
      omega
    · rw [Int.tdiv_eq_ediv_of_nonneg ha]
      have q0 : 0 ≤ a / b := Int.ediv_nonneg (by omega) (by omega)
      have q1 : a / b ≤ a := Int.ediv_le_self _ (by omega)
      omega
  have wq : wrap64 (a.tdiv b) = a.tdiv b := by unfold wrap64; omega
  have n0 : ¬ (b = 0) := by omega
  by_cases hr : a.tmod b < 0
  · rw [if_pos hr] at hq
    rw [← hq]
    clear hq
    go_enter Try.func123, Try.ntmps123
    go_wp2
    go_ret
    exact ⟨rfl, rfl⟩
  · rw [if_neg hr] at hq
    rw [← hq]
    clear hq
    go_enter Try.func123, Try.ntmps123
    go_wp2
    go_ret
    exact ⟨rfl, rfl⟩
set_option maxHeartbeats 4000000 in
set_option maxRecDepth 100000 in
theorem shift_0 (w : World) : Calls Try.prog 122 #[iv 0] w fun e w' => e = .returned (iv 0) ∧ Below w.heap.size w w' := by
  go_enter Try.func122, Try.ntmps122
  go_wp2
  go_ret
  exact ⟨rfl, (Below.refl _ _).alloc (Nat.le_refl _) _⟩
set_option maxHeartbeats 4000000 in
set_option maxRecDepth 100000 in
theorem shift_1 (w : World) : Calls Try.prog 122 #[iv 1] w fun e w' => e = .returned (iv 8) ∧ Below w.heap.size w w' := by
  go_enter Try.func122, Try.ntmps122
  go_wp2
  go_ret
  exact ⟨rfl, (Below.refl _ _).alloc (Nat.le_refl _) _⟩
set_option maxHeartbeats 4000000 in
set_option maxRecDepth 100000 in
theorem shift_2 (w : World) : Calls Try.prog 122 #[iv 2] w fun e w' => e = .returned (iv 25) ∧ Below w.heap.size w w' := by
  go_enter Try.func122, Try.ntmps122
  go_wp2
  go_ret
  exact ⟨rfl, (Below.refl _ _).alloc (Nat.le_refl _) _⟩
set_option maxHeartbeats 4000000 in
set_option maxRecDepth 100000 in
theorem shift_3 (w : World) : Calls Try.prog 122 #[iv 3] w fun e w' => e = .returned (iv 17) ∧ Below w.heap.size w w' := by
  go_enter Try.func122, Try.ntmps122
  go_wp2
  go_ret
  exact ⟨rfl, (Below.refl _ _).alloc (Nat.le_refl _) _⟩
/-- sums of weights, and of weighted taps -/
def al8 (ws : Nat → Int) : Nat → Int
  | 0 => 0
  | k + 1 => al8 ws k + ws k
def sm8 (ws F : Nat → Int) : Nat → Int
  | 0 => 0
  | k + 1 => sm8 ws F k + ws k * F k
theorem al8_bd {ws : Nat → Int} (h : ∀ i, i < 8 → -67108864 ≤ ws i ∧ ws i ≤ 67108864) : ∀ k : Nat, k ≤ 8 → -(67108864 * (k : Int)) ≤ al8 ws k ∧ al8 ws k ≤ 67108864 * (k : Int)
  | 0, _ => by simp [al8]
  | k + 1, hk => by
    have ih := al8_bd h k (by omega)
    have := h k (by omega)
    unfold al8
    omega
theorem pr_bd {x y : Int} (h : -32768 ≤ x ∧ x ≤ 32767) (h2 : -67108864 ≤ y ∧ y ≤ 67108864) : -2199023255552 ≤ y * x ∧ y * x ≤ 2199023255552 := by
  have ha : (y * x).natAbs ≤ 67108864 * 32768 := by
    rw [Int.natAbs_mul]
    exact Nat.mul_le_mul (by omega) (by omega)
  have e : 67108864 * 32768 = 2199023255552 := by decide
  rw [e] at ha
  omega
theorem sm8_bd {ws F : Nat → Int} (h : ∀ i, i < 8 → -67108864 ≤ ws i ∧ ws i ≤ 67108864) (hF : ∀ i, -32768 ≤ F i ∧ F i ≤ 32767) : ∀ k : Nat, k ≤ 8 → -(2199023255552 * (k : Int)) ≤ sm8 ws F k ∧ sm8 ws F k ≤ 2199023255552 * (k : Int)
  | 0, _ => by simp [sm8]
  | k + 1, hk => by
    have ih := sm8_bd h hF k (by omega)
    have := pr_bd (hF k) (h k (by omega))
    unfold sm8
    omega
theorem sum_facts {ws F : Nat → Int} (h : ∀ i, i < 8 → -67108864 ≤ ws i ∧ ws i ≤ 67108864) (hF : ∀ i, -32768 ≤ F i ∧ F i ≤ 32767) {k : Nat} (hk : k < 8) :
    wrap64 (ws k * F k) = ws k * F k ∧ wrap64 (sm8 ws F k + ws k * F k) = sm8 ws F (k + 1) ∧ wrap64 (al8 ws k + ws k) = al8 ws (k + 1) := by
  have a1 := pr_bd (hF k) (h k hk)
  have a2 := sm8_bd h hF k (by omega)
  have a3 := al8_bd h k (by omega)
  have a4 := h k hk
  exact ⟨wrap_in (by omega) (by omega), wrap_in (by omega) (by omega), wrap_in (by omega) (by omega)⟩
theorem sm8_d8 (ws F : Nat → Int) : sm8 ws F 8 = d8 (F 0) (F 1) (F 2) (F 3) (F 4) (F 5) (F 6) (F 7) (ws 0) (ws 1) (ws 2) (ws 3) (ws 4) (ws 5) (ws 6) (ws 7) 8 := by
  simp [sm8, d8, Int.mul_comm]
theorem al8_a8 (ws : Nat → Int) : al8 ws 8 = a8 (ws 0) (ws 1) (ws 2) (ws 3) (ws 4) (ws 5) (ws 6) (ws 7) 8 := by
  simp [al8, a8]
theorem al8_pos {f : Int} (d0 : 0 ≤ f) (d1 : f ≤ 255) : 1 ≤ al8 (wt 4 f) 8 := by
  rw [al8_a8]
  exact by_fraction (p := fun f => 1 ≤ a8 (wt 4 f 0) (wt 4 f 1) (wt 4 f 2) (wt 4 f 3) (wt 4 f 4) (wt 4 f 5) (wt 4 f 6) (wt 4 f 7) 8) wt_sum4 d0 d1
theorem v8_fin (K : Nat) (f : Int) (F : Nat → Int) : v8 K f F = fin8 K (sm8 (wt K f) F 8) (al8 (wt K f) 8) := by
  rw [sm8_d8, al8_a8]
  rfl
theorem v8_4 {f : Int} (d0 : 0 ≤ f) (d1 : f ≤ 255) (F : Nat → Int) (hF : ∀ i, -32768 ≤ F i ∧ F i ≤ 32767) : v8 4 f F = sm8 (wt 4 f) F 8 / al8 (wt 4 f) 8 := by
  have hp := al8_pos d0 d1
  have hs := sm8_bd (fun i hi => wt_bd (k := 4) (by omega) d0 d1 i hi) hF 8 (Nat.le_refl _)
  rw [v8_fin]
  generalize sm8 (wt 4 f) F 8 = s at *
  generalize al8 (wt 4 f) 8 = a at *
  have hq := tdiv_rem (a := s) (b := a) (by omega)
  show (if s.tmod a < 0 then wrap64 (s.tdiv a - 1) else s.tdiv a) = s / a
  rw [← hq]
  have q2 : -100000000000000 ≤ s.tdiv a ∧ s.tdiv a ≤ 100000000000000 := by
    rcases Int.lt_or_le s 0 with ha | ha
    · obtain ⟨m, rfl⟩ : ∃ m, s = -m := ⟨-s, by omega⟩
      rw [Int.neg_tdiv, Int.tdiv_eq_ediv_of_nonneg (by omega)]
      have q0 : 0 ≤ m / a := Int.ediv_nonneg (by omega) (by omega)
      have q1 : m / a ≤ m := Int.ediv_le_self _ (by omega)
      omega
    · rw [Int.tdiv_eq_ediv_of_nonneg ha]
      have q0 : 0 ≤ s / a := Int.ediv_nonneg (by omega) (by omega)
      have q1 : s / a ≤ s := Int.ediv_le_self _ (by omega)
      omega
  split
  · exact wrap_in (by omega) (by omega)
  · rfl
set_option maxHeartbeats 16000000 in
set_option maxRecDepth 100000 in
theorem mean_0 (A : Option Addr) (c b o : Nat) (F : Nat → Int) (hF : ∀ i, -32768 ≤ F i ∧ F i ≤ 32767) (f : Int) (d0 : 0 ≤ f) (d1 : f ≤ 255) (w : World) (hA : DataAt w A 8 b o F) : Calls Try.prog 119 #[iv 0, .slice A 8 c, iv f] w fun e w' => e = .returned (iv (v8 0 f F)) ∧ Below w.heap.size w w' := by
  have hw : ∀ i, i < 8 → -67108864 ≤ wt 0 f i ∧ wt 0 f i ≤ 67108864 := fun i hi => wt_bd (k := 0) (by omega) d0 d1 i hi
  have SF := Lib.hid fun (k : Nat) (hk : k < 8) => sum_facts hw hF hk
  have WC := Lib.hid fun (k : Nat) (hk : k < 8) (W : World) => weight_k0 k hk f d0 d1 W
  have hs := sm8_bd hw hF 8 (Nat.le_refl _)
  have ha := al8_bd hw 8 (Nat.le_refl _)
  have tA := hA.top (by omega)
  subst tA
  have HD := Lib.hid hA
  have VE : v8 0 f F = sm8 (wt 0 f) F 8 := v8_fin _ _ _
  rw [VE]
  clear VE
  obtain ⟨sm, hsm⟩ : ∃ sm, sm8 (wt 0 f) F 8 = sm := ⟨_, rfl⟩
  obtain ⟨al, hal⟩ : ∃ al, al8 (wt 0 f) 8 = al := ⟨_, rfl⟩
  have HSM := Lib.hid hsm
  have HAL := Lib.hid hal
  rw [hsm] at hs ⊢
  have FC := Lib.hid fun (W : World) => mfloordiv_any sm 1 (by omega) (by omega) (by omega) (by omega) W
  clear hsm hal
  clear hw hF hA hs ha
  go_enter Try.func119, Try.ntmps119
  go_upto_region 3 with (fail)
  go_loop [7, 8, 14] (fun s a v => ∃ k : Nat, k ≤ 8 ∧ v = iv k ∧ s = iv (sm8 (wt 0 f) F k) ∧ a = iv (al8 (wt 0 f) k)) (fun _ _ v => 8 - (intOf v).toNat)
  case atStart => exact ⟨0, by omega, rfl, rfl, rfl⟩
  case round =>
    obtain ⟨k, hk, rfl, rfl, rfl⟩ := hrel
    have l3 : (0 : Int) ≤ (k : Int) := by omega
    by_cases hlt : k < 8
    · have l4 : (k : Int) < 8 := by omega
      have c4 := HD.out.cell k hlt
      have e1 : wrap64 ((k : Int) - 3) = (k : Int) - 3 := wrap_in (by omega) (by omega)
      go_upto_region 5 with (fail)
      clear c4
      go_upto_region 6 with (go_at_call 118; (with_reducible refine (WC.out k hlt _).mono ?_); rintro e w5 ⟨rfl, rfl⟩)
      obtain ⟨f1, f2, f3⟩ := SF.out k hlt
      clear e1
      go_wp2
      go_round
      case rel => exact ⟨k + 1, by omega, by go_num, by first | rfl | rw [f1, f2] | rw [f2], by first | rfl | rw [f3]⟩
      case measure => simp [intOf]; omega
    · obtain rfl : k = 8 := by omega
      rw [HSM.out, HAL.out]
      go_upto_region 9 with (fail)
      go_wp2_with (first
        | (go_at_call 122; (with_reducible refine (shift_0 _).mono ?_); rintro e w6 ⟨rfl, hb6⟩)
        | (go_at_call 123; (with_reducible refine (FC.out _).mono ?_); rintro e w7 ⟨rfl, rfl⟩))
      go_ret
      exact ⟨rfl, hb6⟩
set_option maxHeartbeats 16000000 in
set_option maxRecDepth 100000 in
theorem mean_1 (A : Option Addr) (c b o : Nat) (F : Nat → Int) (hF : ∀ i, -32768 ≤ F i ∧ F i ≤ 32767) (f : Int) (d0 : 0 ≤ f) (d1 : f ≤ 255) (w : World) (hA : DataAt w A 8 b o F) : Calls Try.prog 119 #[iv 1, .slice A 8 c, iv f] w fun e w' => e = .returned (iv (v8 1 f F)) ∧ Below w.heap.size w w' := by
  have hw : ∀ i, i < 8 → -67108864 ≤ wt 1 f i ∧ wt 1 f i ≤ 67108864 := fun i hi => wt_bd (k := 1) (by omega) d0 d1 i hi
  have SF := Lib.hid fun (k : Nat) (hk : k < 8) => sum_facts hw hF hk
  have WC := Lib.hid fun (k : Nat) (hk : k < 8) (W : World) => weight_k1 k hk f d0 d1 W
  have hs := sm8_bd hw hF 8 (Nat.le_refl _)
  have ha := al8_bd hw 8 (Nat.le_refl _)
  have tA := hA.top (by omega)
  subst tA
  have HD := Lib.hid hA
  have VE : v8 1 f F = sm8 (wt 1 f) F 8 / 256 := v8_fin _ _ _
  rw [VE]
  clear VE
  obtain ⟨sm, hsm⟩ : ∃ sm, sm8 (wt 1 f) F 8 = sm := ⟨_, rfl⟩
  obtain ⟨al, hal⟩ : ∃ al, al8 (wt 1 f) 8 = al := ⟨_, rfl⟩
  have HSM := Lib.hid hsm
  have HAL := Lib.hid hal
  rw [hsm] at hs ⊢
  have FC := Lib.hid fun (W : World) => mfloordiv_any sm 256 (by omega) (by omega) (by omega) (by omega) W
  clear hsm hal
  clear hw hF hA hs ha
  go_enter Try.func119, Try.ntmps119
  go_upto_region 3 with (fail)
  go_loop [7, 8, 14] (fun s a v => ∃ k : Nat, k ≤ 8 ∧ v = iv k ∧ s = iv (sm8 (wt 1 f) F k) ∧ a = iv (al8 (wt 1 f) k)) (fun _ _ v => 8 - (intOf v).toNat)
  case atStart => exact ⟨0, by omega, rfl, rfl, rfl⟩
  case round =>
    obtain ⟨k, hk, rfl, rfl, rfl⟩ := hrel
    have l3 : (0 : Int) ≤ (k : Int) := by omega
    by_cases hlt : k < 8
    · have l4 : (k : Int) < 8 := by omega
      have c4 := HD.out.cell k hlt
      have e1 : wrap64 ((k : Int) - 3) = (k : Int) - 3 := wrap_in (by omega) (by omega)
      go_upto_region 5 with (fail)
      clear c4
      go_upto_region 6 with (go_at_call 118; (with_reducible refine (WC.out k hlt _).mono ?_); rintro e w5 ⟨rfl, rfl⟩)
      obtain ⟨f1, f2, f3⟩ := SF.out k hlt
      clear e1
      go_wp2
      go_round
      case rel => exact ⟨k + 1, by omega, by go_num, by first | rfl | rw [f1, f2] | rw [f2], by first | rfl | rw [f3]⟩
      case measure => simp [intOf]; omega
    · obtain rfl : k = 8 := by omega
      rw [HSM.out, HAL.out]
      go_upto_region 9 with (fail)
      go_wp2_with (first
        | (go_at_call 122; (with_reducible refine (shift_1 _).mono ?_); rintro e w6 ⟨rfl, hb6⟩)
        | (go_at_call 123; (with_reducible refine (FC.out _).mono ?_); rintro e w7 ⟨rfl, rfl⟩))
      go_ret
      exact ⟨rfl, hb6⟩
set_option maxHeartbeats 16000000 in
set_option maxRecDepth 100000 in
theorem mean_2 (A : Option Addr) (c b o : Nat) (F : Nat → Int) (hF : ∀ i, -32768 ≤ F i ∧ F i ≤ 32767) (f : Int) (d0 : 0 ≤ f) (d1 : f ≤ 255) (w : World) (hA : DataAt w A 8 b o F) : Calls Try.prog 119 #[iv 2, .slice A 8 c, iv f] w fun e w' => e = .returned (iv (v8 2 f F)) ∧ Below w.heap.size w w' := by
  have hw : ∀ i, i < 8 → -67108864 ≤ wt 2 f i ∧ wt 2 f i ≤ 67108864 := fun i hi => wt_bd (k := 2) (by omega) d0 d1 i hi
  have SF := Lib.hid fun (k : Nat) (hk : k < 8) => sum_facts hw hF hk
  have WC := Lib.hid fun (k : Nat) (hk : k < 8) (W : World) => weight_k2 k hk f d0 d1 W
  have hs := sm8_bd hw hF 8 (Nat.le_refl _)
  have ha := al8_bd hw 8 (Nat.le_refl _)
  have tA := hA.top (by omega)
  subst tA
  have HD := Lib.hid hA
  have VE : v8 2 f F = sm8 (wt 2 f) F 8 / 33554432 := v8_fin _ _ _
  rw [VE]
  clear VE
  obtain ⟨sm, hsm⟩ : ∃ sm, sm8 (wt 2 f) F 8 = sm := ⟨_, rfl⟩
  obtain ⟨al, hal⟩ : ∃ al, al8 (wt 2 f) 8 = al := ⟨_, rfl⟩
  have HSM := Lib.hid hsm
  have HAL := Lib.hid hal
  rw [hsm] at hs ⊢
  have FC := Lib.hid fun (W : World) => mfloordiv_any sm 33554432 (by omega) (by omega) (by omega) (by omega) W
  clear hsm hal
  clear hw hF hA hs ha
  go_enter Try.func119, Try.ntmps119
  go_upto_region 3 with (fail)
  go_loop [7, 8, 14] (fun s a v => ∃ k : Nat, k ≤ 8 ∧ v = iv k ∧ s = iv (sm8 (wt 2 f) F k) ∧ a = iv (al8 (wt 2 f) k)) (fun _ _ v => 8 - (intOf v).toNat)
  case atStart => exact ⟨0, by omega, rfl, rfl, rfl⟩
  case round =>
    obtain ⟨k, hk, rfl, rfl, rfl⟩ := hrel
    have l3 : (0 : Int) ≤ (k : Int) := by omega
    by_cases hlt : k < 8
    · have l4 : (k : Int) < 8 := by omega
      have c4 := HD.out.cell k hlt
      have e1 : wrap64 ((k : Int) - 3) = (k : Int) - 3 := wrap_in (by omega) (by omega)
      go_upto_region 5 with (fail)
      clear c4
      go_upto_region 6 with (go_at_call 118; (with_reducible refine (WC.out k hlt _).mono ?_); rintro e w5 ⟨rfl, rfl⟩)
      obtain ⟨f1, f2, f3⟩ := SF.out k hlt
      clear e1
      go_wp2
      go_round
      case rel => exact ⟨k + 1, by omega, by go_num, by first | rfl | rw [f1, f2] | rw [f2], by first | rfl | rw [f3]⟩
      case measure => simp [intOf]; omega
    · obtain rfl : k = 8 := by omega
      rw [HSM.out, HAL.out]
      go_upto_region 9 with (fail)
      go_wp2_with (first
        | (go_at_call 122; (with_reducible refine (shift_2 _).mono ?_); rintro e w6 ⟨rfl, hb6⟩)
        | (go_at_call 123; (with_reducible refine (FC.out _).mono ?_); rintro e w7 ⟨rfl, rfl⟩))
      go_ret
      exact ⟨rfl, hb6⟩
set_option maxHeartbeats 16000000 in
set_option maxRecDepth 100000 in
theorem mean_3 (A : Option Addr) (c b o : Nat) (F : Nat → Int) (hF : ∀ i, -32768 ≤ F i ∧ F i ≤ 32767) (f : Int) (d0 : 0 ≤ f) (d1 : f ≤ 255) (w : World) (hA : DataAt w A 8 b o F) : Calls Try.prog 119 #[iv 3, .slice A 8 c, iv f] w fun e w' => e = .returned (iv (v8 3 f F)) ∧ Below w.heap.size w w' := by
  have hw : ∀ i, i < 8 → -67108864 ≤ wt 3 f i ∧ wt 3 f i ≤ 67108864 := fun i hi => wt_bd (k := 3) (by omega) d0 d1 i hi
  have SF := Lib.hid fun (k : Nat) (hk : k < 8) => sum_facts hw hF hk
  have WC := Lib.hid fun (k : Nat) (hk : k < 8) (W : World) => weight_k3 k hk f d0 d1 W
  have hs := sm8_bd hw hF 8 (Nat.le_refl _)
  have ha := al8_bd hw 8 (Nat.le_refl _)
  have tA := hA.top (by omega)
  subst tA
  have HD := Lib.hid hA
  have VE : v8 3 f F = sm8 (wt 3 f) F 8 / 131072 := v8_fin _ _ _
  rw [VE]
  clear VE
  obtain ⟨sm, hsm⟩ : ∃ sm, sm8 (wt 3 f) F 8 = sm := ⟨_, rfl⟩
  obtain ⟨al, hal⟩ : ∃ al, al8 (wt 3 f) 8 = al := ⟨_, rfl⟩
  have HSM := Lib.hid hsm
  have HAL := Lib.hid hal
  rw [hsm] at hs ⊢
  have FC := Lib.hid fun (W : World) => mfloordiv_any sm 131072 (by omega) (by omega) (by omega) (by omega) W
  clear hsm hal
  clear hw hF hA hs ha
  go_enter Try.func119, Try.ntmps119
  go_upto_region 3 with (fail)
  go_loop [7, 8, 14] (fun s a v => ∃ k : Nat, k ≤ 8 ∧ v = iv k ∧ s = iv (sm8 (wt 3 f) F k) ∧ a = iv (al8 (wt 3 f) k)) (fun _ _ v => 8 - (intOf v).toNat)
  case atStart => exact ⟨0, by omega, rfl, rfl, rfl⟩
  case round =>
    obtain ⟨k, hk, rfl, rfl, rfl⟩ := hrel
    have l3 : (0 : Int) ≤ (k : Int) := by omega
    by_cases hlt : k < 8
    · have l4 : (k : Int) < 8 := by omega
      have c4 := HD.out.cell k hlt
      have e1 : wrap64 ((k : Int) - 3) = (k : Int) - 3 := wrap_in (by omega) (by omega)
      go_upto_region 5 with (fail)
      clear c4
      go_upto_region 6 with (go_at_call 118; (with_reducible refine (WC.out k hlt _).mono ?_); rintro e w5 ⟨rfl, rfl⟩)
      obtain ⟨f1, f2, f3⟩ := SF.out k hlt
      clear e1
      go_wp2
      go_round
      case rel => exact ⟨k + 1, by omega, by go_num, by first | rfl | rw [f1, f2] | rw [f2], by first | rfl | rw [f3]⟩
      case measure => simp [intOf]; omega
    · obtain rfl : k = 8 := by omega
      rw [HSM.out, HAL.out]
      go_upto_region 9 with (fail)
      go_wp2_with (first
        | (go_at_call 122; (with_reducible refine (shift_3 _).mono ?_); rintro e w6 ⟨rfl, hb6⟩)
        | (go_at_call 123; (with_reducible refine (FC.out _).mono ?_); rintro e w7 ⟨rfl, rfl⟩))
      go_ret
      exact ⟨rfl, hb6⟩
set_option maxHeartbeats 16000000 in
set_option maxRecDepth 100000 in
theorem mean_4 (A : Option Addr) (c b o : Nat) (F : Nat → Int) (hF : ∀ i, -32768 ≤ F i ∧ F i ≤ 32767) (f : Int) (d0 : 0 ≤ f) (d1 : f ≤ 255) (w : World) (hA : DataAt w A 8 b o F) : Calls Try.prog 119 #[iv 4, .slice A 8 c, iv f] w fun e w' => e = .returned (iv (v8 4 f F)) ∧ Below w.heap.size w w' := by
  have hw : ∀ i, i < 8 → -67108864 ≤ wt 4 f i ∧ wt 4 f i ≤ 67108864 := fun i hi => wt_bd (k := 4) (by omega) d0 d1 i hi
  have SF := Lib.hid fun (k : Nat) (hk : k < 8) => sum_facts hw hF hk
  have WC := Lib.hid fun (k : Nat) (hk : k < 8) (W : World) => weight_k4 k hk f d0 d1 W
  have hs := sm8_bd hw hF 8 (Nat.le_refl _)
  have ha := al8_bd hw 8 (Nat.le_refl _)
  have tA := hA.top (by omega)
  subst tA
  have HD := Lib.hid hA
  have hp := al8_pos d0 d1
  rw [v8_4 d0 d1 F hF]
  obtain ⟨sm, hsm⟩ : ∃ sm, sm8 (wt 4 f) F 8 = sm := ⟨_, rfl⟩
  obtain ⟨al, hal⟩ : ∃ al, al8 (wt 4 f) 8 = al := ⟨_, rfl⟩
  have HSM := Lib.hid hsm
  have HAL := Lib.hid hal
  rw [hsm, hal] at ⊢
  rw [hsm] at hs
  rw [hal] at ha hp
  have FC := Lib.hid fun (W : World) => mfloordiv_any sm al (by omega) (by omega) (by omega) (by omega) W
  clear hp
  clear hsm hal
  clear hw hF hA hs ha
  go_enter Try.func119, Try.ntmps119
  go_upto_region 3 with (fail)
  go_loop [7, 8, 14] (fun s a v => ∃ k : Nat, k ≤ 8 ∧ v = iv k ∧ s = iv (sm8 (wt 4 f) F k) ∧ a = iv (al8 (wt 4 f) k)) (fun _ _ v => 8 - (intOf v).toNat)
  case atStart => exact ⟨0, by omega, rfl, rfl, rfl⟩
  case round =>
    obtain ⟨k, hk, rfl, rfl, rfl⟩ := hrel
    have l3 : (0 : Int) ≤ (k : Int) := by omega
    by_cases hlt : k < 8
    · have l4 : (k : Int) < 8 := by omega
      have c4 := HD.out.cell k hlt
      have e1 : wrap64 ((k : Int) - 3) = (k : Int) - 3 := wrap_in (by omega) (by omega)
      go_upto_region 5 with (fail)
      clear c4
      go_upto_region 6 with (go_at_call 118; (with_reducible refine (WC.out k hlt _).mono ?_); rintro e w5 ⟨rfl, rfl⟩)
      obtain ⟨f1, f2, f3⟩ := SF.out k hlt
      clear e1
      go_wp2
      go_round
      case rel => exact ⟨k + 1, by omega, by go_num, by first | rfl | rw [f1, f2] | rw [f2], by first | rfl | rw [f3]⟩
      case measure => simp [intOf]; omega
    · obtain rfl : k = 8 := by omega
      rw [HSM.out, HAL.out]
      go_wp2_with (go_at_call 123; (with_reducible refine (FC.out _).mono ?_); rintro e w7 ⟨rfl, rfl⟩)
      go_ret
      exact ⟨rfl, Below.refl _ _⟩
theorem mean_any (K : Nat) (hK : K ≤ 4) (A : Option Addr) (c b o : Nat) (F : Nat → Int) (hF : ∀ i, -32768 ≤ F i ∧ F i ≤ 32767) (f : Int) (d0 : 0 ≤ f) (d1 : f ≤ 255) (w : World) (hA : DataAt w A 8 b o F) : Calls Try.prog 119 #[iv K, .slice A 8 c, iv f] w fun e w' => e = .returned (iv (v8 K f F)) ∧ Below w.heap.size w w' := by
  rcases (by omega : K = 0 ∨ K = 1 ∨ K = 2 ∨ K = 3 ∨ K = 4) with rfl | rfl | rfl | rfl | rfl
  · exact mean_0 A c b o F hF f d0 d1 w hA
  · exact mean_1 A c b o F hF f d0 d1 w hA
  · exact mean_2 A c b o F hF f d0 d1 w hA
  · exact mean_3 A c b o F hF f d0 d1 w hA
  · exact mean_4 A c b o F hF f d0 d1 w hA
end Go.Proofs.Ytnmoiolddfboiaa.SX

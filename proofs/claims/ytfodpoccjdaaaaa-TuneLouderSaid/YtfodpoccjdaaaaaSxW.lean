/- A sample is valid: both packages. -/
import Derived.Test.YtfodpoccjdaaaaaSxV
namespace Go.Proofs.Ytfodpoccjdaaaaa.SX
open Go.RowKit Go.Proofs.YtfodpoccjdaaaaaW.PrintLast Go.Proofs.Ytfodpoccjdaaaaa.TX
set_option linter.unusedVariables false
set_option linter.unusedSimpArgs false
/-- a call that leaves the world alone, behind draws -/
theorem quietL {P : Program} {f : FuncId} {args : Array Value} {w : World} {a n : Nat} {v : Value} (h : Calls P f args (w.drewN (a + n)) fun e w' => e = .returned v ∧ w.drewN (a + n) = w') :
    Calls P f args (w.drewN (a + n)) fun e w'' => e = .returned v ∧ ∃ m, w'' = w.drewN (a + m) := h.mono fun _ _ h => ⟨h.1, n, h.2.symm⟩
set_option maxHeartbeats 16000000 in
set_option maxRecDepth 100000 in
theorem valid_any (s : S) (A : Option Addr) (n c0 b o : Nat) (xs : Nat → Int) (hn : n ≤ 9223372036854775807) (hc0 : n ≤ c0) (w : World) (hA : DataAt w A n b o xs) : Calls Try.prog 95 #[.agg (s.cs A n c0)] w fun e w' => e = .returned (.bool (vS s n xs)) ∧ Below w.heap.size w w' := by
  have y0 : (s.cs A n c0)[0]? = some (.string s.nm) := rfl
  have y1 : (s.cs A n c0)[1]? = some (.slice A n c0) := rfl
  have y2 : (s.cs A n c0)[2]? = some (iv s.a2) := rfl
  have y3 : (s.cs A n c0)[3]? = some (iv s.a3) := rfl
  have y4 : (s.cs A n c0)[4]? = some (iv s.a4) := rfl
  have y5 : (s.cs A n c0)[5]? = some (iv s.a5) := rfl
  have y6 : (s.cs A n c0)[6]? = some (iv s.a6) := rfl
  have y7 : (s.cs A n c0)[7]? = some (iv s.a7) := rfl
  have y8 : (s.cs A n c0)[8]? = some (iv s.a8) := rfl
  have y9 : (s.cs A n c0)[9]? = some (iv s.a9) := rfl
  have y10 : (s.cs A n c0)[10]? = some (iv s.a10) := rfl
  have y11 : (s.cs A n c0)[11]? = some (iv s.a11) := rfl
  have y12 : (s.cs A n c0)[12]? = some (iv s.a12) := rfl
  obtain ⟨r, hr⟩ : ∃ r, vS s n xs = r := ⟨_, rfl⟩
  rw [hr]
  have HR := Lib.hid hr
  clear hr
  have HD := Lib.hid hA
  have TD := Lib.hid hA.top
  clear hA
  by_cases h0 : s.nm.size ≤ 22
  · have d0 : decide (22 < (s.nm.size : Int)) = false := decide_eq_false (by omega)
    have d0n : decide (22 < s.nm.size) = false := decide_eq_false (by omega)
    by_cases h1 : s.a2 = 8 ∨ s.a2 = 16
    · by_cases h2 : n ≤ 4096
      · have d4 : decide (4096 < (n : Int)) = false := decide_eq_false (by omega)
        have d4n : decide (4096 < n) = false := decide_eq_false (by omega)
        have HBT : Bits s.a2 (hb s.a2) := by
          unfold hb Bits
          rcases h1 with h | h
          · rw [if_pos h]; exact .inl ⟨h, rfl⟩
          · rw [if_neg (by omega)]; exact .inr ⟨h, rfl⟩
        have LQ := Lib.hid fun (W : World) => slimit_any s.a2 (hb s.a2) HBT W
        have H0 := Lib.hid h0
        have H1 := Lib.hid h1
        have H2 := Lib.hid h2
        obtain ⟨hh, hhh⟩ : ∃ hh, hb s.a2 = hh := ⟨_, rfl⟩
        rw [hhh] at LQ
        have HH := Lib.hid hhh
        have HHB := Lib.hid (show 1 ≤ hh ∧ hh ≤ 32768 by rw [← hhh]; unfold hb; split <;> omega)
        clear HBT hhh
        by_cases h8 : s.a2 = 8
        · have e8 : (s.a2 != 8) = false := by simp [h8]
          clear h0 h1 h2 h8
          go_enter Try.func95, Try.ntmps95
          go_upto_region 4 with (fail)
          clear d0 d0n d4 d4n e8
          have l0 : (s.nm.size : Int) ≤ 22 := by have := H0.out; omega
          have l1 : (n : Int) ≤ 4096 := by have := H2.out; omega
          go_loop [31] (fun v => ∃ k : Nat, k ≤ s.nm.size ∧ v = iv k ∧ ∀ j (h : j < s.nm.size), j < k → 32 ≤ (s.nm[j].toNat : Int) ∧ (s.nm[j].toNat : Int) ≤ 126) (fun v => s.nm.size - (intOf v).toNat)
          case atStart => exact ⟨0, by omega, rfl, fun j h hj => by omega⟩
          case round =>
            obtain ⟨k, hk, rfl, hj⟩ := hrel
            have HJ := Lib.hid hj
            clear hj
            have l3 : (0 : Int) ≤ (k : Int) := by omega
            by_cases hlt : k < s.nm.size
            · have l4 : (k : Int) < (s.nm.size : Int) := by omega
              have hk1 : k < s.nm.size := hlt
              by_cases c1 : (s.nm[k].toNat : Int) < 32
              · have d1 : decide ((s.nm[k].toNat : Int) < 32) = true := decide_eq_true c1
                have n1 : decide (s.nm[k].toNat < 32) = true := decide_eq_true (by omega)
                obtain rfl : false = r := (show vS s n xs = false from decide_eq_false (fun h => by have := h.2.2.2.1 k hk1; omega)).symm.trans HR.out
                go_wp2
                go_ret
                exact ⟨rfl, by first | exact (Below.refl _ _).alloc (Nat.le_refl _) _ | exact bdN ((Below.refl _ _).alloc (Nat.le_refl _) _) _ | exact bdN (bdN ((Below.refl _ _).alloc (Nat.le_refl _) _) _) _⟩
              · have d1 : decide ((s.nm[k].toNat : Int) < 32) = false := decide_eq_false c1
                have n1 : decide (s.nm[k].toNat < 32) = false := decide_eq_false (by omega)
                by_cases c2 : 126 < (s.nm[k].toNat : Int)
                · have d2 : decide (126 < (s.nm[k].toNat : Int)) = true := decide_eq_true c2
                  have n2 : decide (126 < s.nm[k].toNat) = true := decide_eq_true (by omega)
                  obtain rfl : false = r := (show vS s n xs = false from decide_eq_false (fun h => by have := h.2.2.2.1 k hk1; omega)).symm.trans HR.out
                  go_wp2
                  go_ret
                  exact ⟨rfl, by first | exact (Below.refl _ _).alloc (Nat.le_refl _) _ | exact bdN ((Below.refl _ _).alloc (Nat.le_refl _) _) _ | exact bdN (bdN ((Below.refl _ _).alloc (Nat.le_refl _) _) _) _⟩
                · have d2 : decide (126 < (s.nm[k].toNat : Int)) = false := decide_eq_false c2
                  have n2 : decide (126 < s.nm[k].toNat) = false := decide_eq_false (by omega)
                  have HOK := Lib.hid (show 32 ≤ (s.nm[k].toNat : Int) ∧ (s.nm[k].toNat : Int) ≤ 126 by omega)
                  clear c1 c2
                  go_wp2
                  go_round
                  case rel => exact ⟨k + 1, by omega, by go_num, fun j h hj => by
                    rcases (by omega : j < k ∨ j = k) with e | rfl
                    · exact HJ.out j h e
                    · exact HOK.out⟩
                  case measure => simp [intOf]; omega
            · obtain rfl : k = s.nm.size := by omega
              have HNm := Lib.hid (show NameOk s.nm from fun i h => HJ.out i h h)
              clear HJ hlt l3 hk
              go_upto_region 11 with (go_at_call 152; (with_reducible refine (LQ.out _).mono ?_); rintro e w4 ⟨rfl, m4, rfl⟩)
              have l2 : (0 : Int) ≤ (n : Int) := by omega
              have c1 : ((w.alloc (Obj.cells (s.cs A n c0) 31)).drewN m4).cell? ⟨w.heap.size, 1, none⟩ = some (.slice A n c0) := (bkCell (heap_alloc_new w (Obj.cells (s.cs A n c0) 31)) 1).trans rfl
              have D4 := Lib.hid (show DataAt ((w.alloc (Obj.cells (s.cs A n c0) 31)).drewN m4) A n b o xs from HD.out.later (bdN ((Below.refl _ _).alloc (Nat.le_refl _) _) m4))
              go_loop [56] (fun v => ∃ k : Nat, k ≤ n ∧ v = iv k ∧ ∀ j, j < k → -hh ≤ xs j ∧ xs j ≤ hh - 1) (fun v => n - (intOf v).toNat)
              case atStart => exact ⟨0, by omega, rfl, fun j hj => by omega⟩
              case round =>
                obtain ⟨k, hk, rfl, hj⟩ := hrel
                have HJ := Lib.hid hj
                clear hj
                have l3 : (0 : Int) ≤ (k : Int) := by omega
                by_cases hlt : k < n
                · have l4 : (k : Int) < (n : Int) := by omega
                  have tA := TD.out (by omega)
                  subst tA
                  have e0 := D4.out.cell k hlt
                  obtain ⟨v, hv⟩ : ∃ v, xs k = v := ⟨_, rfl⟩
                  rw [hv] at e0
                  have HV := Lib.hid hv
                  clear hv
                  by_cases q1 : v < -hh
                  · have f1 : decide (v < -hh) = true := decide_eq_true q1
                    obtain rfl : false = r := (show vS s n xs = false from decide_eq_false (fun h => by have h9 := h.2.2.2.2.1 k hlt; rw [HH.out, HV.out] at h9; omega)).symm.trans HR.out
                    go_wp2
                    go_ret
                    exact ⟨rfl, by first | exact (Below.refl _ _).alloc (Nat.le_refl _) _ | exact bdN ((Below.refl _ _).alloc (Nat.le_refl _) _) _ | exact bdN (bdN ((Below.refl _ _).alloc (Nat.le_refl _) _) _) _⟩
                  · have f1 : decide (v < -hh) = false := decide_eq_false q1
                    by_cases q2 : hh - 1 < v
                    · have f2 : decide (hh - 1 < v) = true := decide_eq_true q2
                      obtain rfl : false = r := (show vS s n xs = false from decide_eq_false (fun h => by have h9 := h.2.2.2.2.1 k hlt; rw [HH.out, HV.out] at h9; omega)).symm.trans HR.out
                      go_wp2
                      go_ret
                      exact ⟨rfl, by first | exact (Below.refl _ _).alloc (Nat.le_refl _) _ | exact bdN ((Below.refl _ _).alloc (Nat.le_refl _) _) _ | exact bdN (bdN ((Below.refl _ _).alloc (Nat.le_refl _) _) _) _⟩
                    · have f2 : decide (hh - 1 < v) = false := decide_eq_false q2
                      have HQ := Lib.hid (show -hh ≤ v ∧ v ≤ hh - 1 by omega)
                      clear q1 q2
                      go_wp2
                      go_round
                      case rel => exact ⟨k + 1, by omega, by go_num, fun j hj => by
                        rcases (by omega : j < k ∨ j = k) with e | rfl
                        · exact HJ.out j e
                        · rw [HV.out]; exact HQ.out⟩
                      case measure => simp [intOf]; omega
                · obtain rfl : k = n := by omega
                  have HF := Lib.hid (show FrOk (hb s.a2) k xs from by rw [HH.out]; exact fun i h => HJ.out i h)
                  clear HJ hlt l3 hk D4
                  by_cases q0 : s.a3 < 1
                  · have dr0 : decide (s.a3 < 1) = true := decide_eq_true (by omega)
                    obtain rfl : false = r := (show vS s k xs = false from decide_eq_false (fun h => by have h9 := h.2.2.2.2.2.1; unfold RgOk at h9; omega)).symm.trans HR.out
                    go_wp2
                    go_ret
                    exact ⟨rfl, by first | exact (Below.refl _ _).alloc (Nat.le_refl _) _ | exact bdN ((Below.refl _ _).alloc (Nat.le_refl _) _) _ | exact bdN (bdN ((Below.refl _ _).alloc (Nat.le_refl _) _) _) _⟩
                  have dr0 : decide (s.a3 < 1) = false := decide_eq_false (by omega)
                  by_cases q1 : 65535 < s.a3
                  · have dr1 : decide (65535 < s.a3) = true := decide_eq_true (by omega)
                    obtain rfl : false = r := (show vS s k xs = false from decide_eq_false (fun h => by have h9 := h.2.2.2.2.2.1; unfold RgOk at h9; omega)).symm.trans HR.out
                    go_wp2
                    go_ret
                    exact ⟨rfl, by first | exact (Below.refl _ _).alloc (Nat.le_refl _) _ | exact bdN ((Below.refl _ _).alloc (Nat.le_refl _) _) _ | exact bdN (bdN ((Below.refl _ _).alloc (Nat.le_refl _) _) _) _⟩
                  have dr1 : decide (65535 < s.a3) = false := decide_eq_false (by omega)
                  by_cases q2 : s.a4 < 0
                  · have dr2 : decide (s.a4 < 0) = true := decide_eq_true (by omega)
                    obtain rfl : false = r := (show vS s k xs = false from decide_eq_false (fun h => by have h9 := h.2.2.2.2.2.1; unfold RgOk at h9; omega)).symm.trans HR.out
                    go_wp2
                    go_ret
                    exact ⟨rfl, by first | exact (Below.refl _ _).alloc (Nat.le_refl _) _ | exact bdN ((Below.refl _ _).alloc (Nat.le_refl _) _) _ | exact bdN (bdN ((Below.refl _ _).alloc (Nat.le_refl _) _) _) _⟩
                  have dr2 : decide (s.a4 < 0) = false := decide_eq_false (by omega)
                  by_cases q3 : 64 < s.a4
                  · have dr3 : decide (64 < s.a4) = true := decide_eq_true (by omega)
                    obtain rfl : false = r := (show vS s k xs = false from decide_eq_false (fun h => by have h9 := h.2.2.2.2.2.1; unfold RgOk at h9; omega)).symm.trans HR.out
                    go_wp2
                    go_ret
                    exact ⟨rfl, by first | exact (Below.refl _ _).alloc (Nat.le_refl _) _ | exact bdN ((Below.refl _ _).alloc (Nat.le_refl _) _) _ | exact bdN (bdN ((Below.refl _ _).alloc (Nat.le_refl _) _) _) _⟩
                  have dr3 : decide (64 < s.a4) = false := decide_eq_false (by omega)
                  by_cases q4 : s.a5 < -1
                  · have dr4 : decide (s.a5 < -1) = true := decide_eq_true (by omega)
                    obtain rfl : false = r := (show vS s k xs = false from decide_eq_false (fun h => by have h9 := h.2.2.2.2.2.1; unfold RgOk at h9; omega)).symm.trans HR.out
                    go_wp2
                    go_ret
                    exact ⟨rfl, by first | exact (Below.refl _ _).alloc (Nat.le_refl _) _ | exact bdN ((Below.refl _ _).alloc (Nat.le_refl _) _) _ | exact bdN (bdN ((Below.refl _ _).alloc (Nat.le_refl _) _) _) _⟩
                  have dr4 : decide (s.a5 < -1) = false := decide_eq_false (by omega)
                  by_cases q5 : 256 < s.a5
                  · have dr5 : decide (256 < s.a5) = true := decide_eq_true (by omega)
                    obtain rfl : false = r := (show vS s k xs = false from decide_eq_false (fun h => by have h9 := h.2.2.2.2.2.1; unfold RgOk at h9; omega)).symm.trans HR.out
                    go_wp2
                    go_ret
                    exact ⟨rfl, by first | exact (Below.refl _ _).alloc (Nat.le_refl _) _ | exact bdN ((Below.refl _ _).alloc (Nat.le_refl _) _) _ | exact bdN (bdN ((Below.refl _ _).alloc (Nat.le_refl _) _) _) _⟩
                  have dr5 : decide (256 < s.a5) = false := decide_eq_false (by omega)
                  by_cases q6 : s.a6 < -64
                  · have dr6 : decide (s.a6 < -64) = true := decide_eq_true (by omega)
                    obtain rfl : false = r := (show vS s k xs = false from decide_eq_false (fun h => by have h9 := h.2.2.2.2.2.1; unfold RgOk at h9; omega)).symm.trans HR.out
                    go_wp2
                    go_ret
                    exact ⟨rfl, by first | exact (Below.refl _ _).alloc (Nat.le_refl _) _ | exact bdN ((Below.refl _ _).alloc (Nat.le_refl _) _) _ | exact bdN (bdN ((Below.refl _ _).alloc (Nat.le_refl _) _) _) _⟩
                  have dr6 : decide (s.a6 < -64) = false := decide_eq_false (by omega)
                  by_cases q7 : 63 < s.a6
                  · have dr7 : decide (63 < s.a6) = true := decide_eq_true (by omega)
                    obtain rfl : false = r := (show vS s k xs = false from decide_eq_false (fun h => by have h9 := h.2.2.2.2.2.1; unfold RgOk at h9; omega)).symm.trans HR.out
                    go_wp2
                    go_ret
                    exact ⟨rfl, by first | exact (Below.refl _ _).alloc (Nat.le_refl _) _ | exact bdN ((Below.refl _ _).alloc (Nat.le_refl _) _) _ | exact bdN (bdN ((Below.refl _ _).alloc (Nat.le_refl _) _) _) _⟩
                  have dr7 : decide (63 < s.a6) = false := decide_eq_false (by omega)
                  have HRg := Lib.hid (show RgOk s by unfold RgOk; omega)
                  clear q0 q1 q2 q3 q4 q5 q6 q7
                  cases hl1 : lpB s.a7 s.a8 s.a9 k
                  · have KL1 := Lib.hid fun (W : World) => (show Calls Try.prog 153 #[iv s.a7, iv s.a8, iv s.a9, iv k] W fun e w' => e = .returned (.bool false) ∧ W = w' from by have := loop_any s.a7 s.a8 s.a9 k W; rwa [hl1] at this)
                    obtain rfl : false = r := (show vS s k xs = false from decide_eq_false (fun h => absurd (decide_eq_true h.2.2.2.2.2.2.1) (by rw [show decide _ = lpB s.a7 s.a8 s.a9 k from rfl, hl1]; decide))).symm.trans HR.out
                    clear hl1
                    go_wp2_with (go_at_call 153; (with_reducible refine (KL1.out _).mono ?_); rintro e w8 ⟨rfl, rfl⟩)
                    go_ret
                    exact ⟨rfl, by first | exact (Below.refl _ _).alloc (Nat.le_refl _) _ | exact bdN ((Below.refl _ _).alloc (Nat.le_refl _) _) _ | exact bdN (bdN ((Below.refl _ _).alloc (Nat.le_refl _) _) _) _⟩
                  · have KL1 := Lib.hid fun (W : World) => (show Calls Try.prog 153 #[iv s.a7, iv s.a8, iv s.a9, iv k] W fun e w' => e = .returned (.bool true) ∧ W = w' from by have := loop_any s.a7 s.a8 s.a9 k W; rwa [hl1] at this)
                    cases hl2 : lpB s.a10 s.a11 s.a12 k
                    · have KL2 := Lib.hid fun (W : World) => (show Calls Try.prog 153 #[iv s.a10, iv s.a11, iv s.a12, iv k] W fun e w' => e = .returned (.bool false) ∧ W = w' from by have := loop_any s.a10 s.a11 s.a12 k W; rwa [hl2] at this)
                      obtain rfl : false = r := (show vS s k xs = false from decide_eq_false (fun h => absurd (decide_eq_true h.2.2.2.2.2.2.2) (by rw [show decide _ = lpB s.a10 s.a11 s.a12 k from rfl, hl2]; decide))).symm.trans HR.out
                      clear hl1 hl2
                      go_wp2_with (first
                        | (go_at_call 153; (with_reducible refine (KL1.out _).mono ?_); rintro e w8 ⟨rfl, rfl⟩)
                        | (go_at_call 153; (with_reducible refine (KL2.out _).mono ?_); rintro e w8 ⟨rfl, rfl⟩))
                      go_ret
                      exact ⟨rfl, by first | exact (Below.refl _ _).alloc (Nat.le_refl _) _ | exact bdN ((Below.refl _ _).alloc (Nat.le_refl _) _) _ | exact bdN (bdN ((Below.refl _ _).alloc (Nat.le_refl _) _) _) _⟩
                    · have KL2 := Lib.hid fun (W : World) => (show Calls Try.prog 153 #[iv s.a10, iv s.a11, iv s.a12, iv k] W fun e w' => e = .returned (.bool true) ∧ W = w' from by have := loop_any s.a10 s.a11 s.a12 k W; rwa [hl2] at this)
                      obtain rfl : true = r := (show vS s k xs = true from decide_eq_true ⟨H0.out, H1.out, H2.out, HNm.out, HF.out, HRg.out, of_decide_eq_true hl1, of_decide_eq_true hl2⟩).symm.trans HR.out
                      clear hl1 hl2
                      go_wp2_with (first
                        | (go_at_call 153; (with_reducible refine (KL1.out _).mono ?_); rintro e w8 ⟨rfl, rfl⟩)
                        | (go_at_call 153; (with_reducible refine (KL2.out _).mono ?_); rintro e w8 ⟨rfl, rfl⟩))
                      go_ret
                      exact ⟨rfl, by first | exact (Below.refl _ _).alloc (Nat.le_refl _) _ | exact bdN ((Below.refl _ _).alloc (Nat.le_refl _) _) _ | exact bdN (bdN ((Below.refl _ _).alloc (Nat.le_refl _) _) _) _⟩
        · have h16 : s.a2 = 16 := by omega
          have e8 : (s.a2 != 8) = true := by simp [h8]
          have e16 : (s.a2 != 16) = false := by simp [h16]
          clear h0 h1 h2 h8 h16
          go_enter Try.func95, Try.ntmps95
          go_upto_region 4 with (fail)
          clear d0 d0n d4 d4n e8 e16
          have l0 : (s.nm.size : Int) ≤ 22 := by have := H0.out; omega
          have l1 : (n : Int) ≤ 4096 := by have := H2.out; omega
          go_loop [31] (fun v => ∃ k : Nat, k ≤ s.nm.size ∧ v = iv k ∧ ∀ j (h : j < s.nm.size), j < k → 32 ≤ (s.nm[j].toNat : Int) ∧ (s.nm[j].toNat : Int) ≤ 126) (fun v => s.nm.size - (intOf v).toNat)
          case atStart => exact ⟨0, by omega, rfl, fun j h hj => by omega⟩
          case round =>
            obtain ⟨k, hk, rfl, hj⟩ := hrel
            have HJ := Lib.hid hj
            clear hj
            have l3 : (0 : Int) ≤ (k : Int) := by omega
            by_cases hlt : k < s.nm.size
            · have l4 : (k : Int) < (s.nm.size : Int) := by omega
              have hk1 : k < s.nm.size := hlt
              by_cases c1 : (s.nm[k].toNat : Int) < 32
              · have d1 : decide ((s.nm[k].toNat : Int) < 32) = true := decide_eq_true c1
                have n1 : decide (s.nm[k].toNat < 32) = true := decide_eq_true (by omega)
                obtain rfl : false = r := (show vS s n xs = false from decide_eq_false (fun h => by have := h.2.2.2.1 k hk1; omega)).symm.trans HR.out
                go_wp2
                go_ret
                exact ⟨rfl, by first | exact (Below.refl _ _).alloc (Nat.le_refl _) _ | exact bdN ((Below.refl _ _).alloc (Nat.le_refl _) _) _ | exact bdN (bdN ((Below.refl _ _).alloc (Nat.le_refl _) _) _) _⟩
              · have d1 : decide ((s.nm[k].toNat : Int) < 32) = false := decide_eq_false c1
                have n1 : decide (s.nm[k].toNat < 32) = false := decide_eq_false (by omega)
                by_cases c2 : 126 < (s.nm[k].toNat : Int)
                · have d2 : decide (126 < (s.nm[k].toNat : Int)) = true := decide_eq_true c2
                  have n2 : decide (126 < s.nm[k].toNat) = true := decide_eq_true (by omega)
                  obtain rfl : false = r := (show vS s n xs = false from decide_eq_false (fun h => by have := h.2.2.2.1 k hk1; omega)).symm.trans HR.out
                  go_wp2
                  go_ret
                  exact ⟨rfl, by first | exact (Below.refl _ _).alloc (Nat.le_refl _) _ | exact bdN ((Below.refl _ _).alloc (Nat.le_refl _) _) _ | exact bdN (bdN ((Below.refl _ _).alloc (Nat.le_refl _) _) _) _⟩
                · have d2 : decide (126 < (s.nm[k].toNat : Int)) = false := decide_eq_false c2
                  have n2 : decide (126 < s.nm[k].toNat) = false := decide_eq_false (by omega)
                  have HOK := Lib.hid (show 32 ≤ (s.nm[k].toNat : Int) ∧ (s.nm[k].toNat : Int) ≤ 126 by omega)
                  clear c1 c2
                  go_wp2
                  go_round
                  case rel => exact ⟨k + 1, by omega, by go_num, fun j h hj => by
                    rcases (by omega : j < k ∨ j = k) with e | rfl
                    · exact HJ.out j h e
                    · exact HOK.out⟩
                  case measure => simp [intOf]; omega
            · obtain rfl : k = s.nm.size := by omega
              have HNm := Lib.hid (show NameOk s.nm from fun i h => HJ.out i h h)
              clear HJ hlt l3 hk
              go_upto_region 11 with (go_at_call 152; (with_reducible refine (LQ.out _).mono ?_); rintro e w4 ⟨rfl, m4, rfl⟩)
              have l2 : (0 : Int) ≤ (n : Int) := by omega
              have c1 : ((w.alloc (Obj.cells (s.cs A n c0) 31)).drewN m4).cell? ⟨w.heap.size, 1, none⟩ = some (.slice A n c0) := (bkCell (heap_alloc_new w (Obj.cells (s.cs A n c0) 31)) 1).trans rfl
              have D4 := Lib.hid (show DataAt ((w.alloc (Obj.cells (s.cs A n c0) 31)).drewN m4) A n b o xs from HD.out.later (bdN ((Below.refl _ _).alloc (Nat.le_refl _) _) m4))
              go_loop [56] (fun v => ∃ k : Nat, k ≤ n ∧ v = iv k ∧ ∀ j, j < k → -hh ≤ xs j ∧ xs j ≤ hh - 1) (fun v => n - (intOf v).toNat)
              case atStart => exact ⟨0, by omega, rfl, fun j hj => by omega⟩
              case round =>
                obtain ⟨k, hk, rfl, hj⟩ := hrel
                have HJ := Lib.hid hj
                clear hj
                have l3 : (0 : Int) ≤ (k : Int) := by omega
                by_cases hlt : k < n
                · have l4 : (k : Int) < (n : Int) := by omega
                  have tA := TD.out (by omega)
                  subst tA
                  have e0 := D4.out.cell k hlt
                  obtain ⟨v, hv⟩ : ∃ v, xs k = v := ⟨_, rfl⟩
                  rw [hv] at e0
                  have HV := Lib.hid hv
                  clear hv
                  by_cases q1 : v < -hh
                  · have f1 : decide (v < -hh) = true := decide_eq_true q1
                    obtain rfl : false = r := (show vS s n xs = false from decide_eq_false (fun h => by have h9 := h.2.2.2.2.1 k hlt; rw [HH.out, HV.out] at h9; omega)).symm.trans HR.out
                    go_wp2
                    go_ret
                    exact ⟨rfl, by first | exact (Below.refl _ _).alloc (Nat.le_refl _) _ | exact bdN ((Below.refl _ _).alloc (Nat.le_refl _) _) _ | exact bdN (bdN ((Below.refl _ _).alloc (Nat.le_refl _) _) _) _⟩
                  · have f1 : decide (v < -hh) = false := decide_eq_false q1
                    by_cases q2 : hh - 1 < v
                    · have f2 : decide (hh - 1 < v) = true := decide_eq_true q2
                      obtain rfl : false = r := (show vS s n xs = false from decide_eq_false (fun h => by have h9 := h.2.2.2.2.1 k hlt; rw [HH.out, HV.out] at h9; omega)).symm.trans HR.out
                      go_wp2
                      go_ret
                      exact ⟨rfl, by first | exact (Below.refl _ _).alloc (Nat.le_refl _) _ | exact bdN ((Below.refl _ _).alloc (Nat.le_refl _) _) _ | exact bdN (bdN ((Below.refl _ _).alloc (Nat.le_refl _) _) _) _⟩
                    · have f2 : decide (hh - 1 < v) = false := decide_eq_false q2
                      have HQ := Lib.hid (show -hh ≤ v ∧ v ≤ hh - 1 by omega)
                      clear q1 q2
                      go_wp2
                      go_round
                      case rel => exact ⟨k + 1, by omega, by go_num, fun j hj => by
                        rcases (by omega : j < k ∨ j = k) with e | rfl
                        · exact HJ.out j e
                        · rw [HV.out]; exact HQ.out⟩
                      case measure => simp [intOf]; omega
                · obtain rfl : k = n := by omega
                  have HF := Lib.hid (show FrOk (hb s.a2) k xs from by rw [HH.out]; exact fun i h => HJ.out i h)
                  clear HJ hlt l3 hk D4
                  by_cases q0 : s.a3 < 1
                  · have dr0 : decide (s.a3 < 1) = true := decide_eq_true (by omega)
                    obtain rfl : false = r := (show vS s k xs = false from decide_eq_false (fun h => by have h9 := h.2.2.2.2.2.1; unfold RgOk at h9; omega)).symm.trans HR.out
                    go_wp2
                    go_ret
                    exact ⟨rfl, by first | exact (Below.refl _ _).alloc (Nat.le_refl _) _ | exact bdN ((Below.refl _ _).alloc (Nat.le_refl _) _) _ | exact bdN (bdN ((Below.refl _ _).alloc (Nat.le_refl _) _) _) _⟩
                  have dr0 : decide (s.a3 < 1) = false := decide_eq_false (by omega)
                  by_cases q1 : 65535 < s.a3
                  · have dr1 : decide (65535 < s.a3) = true := decide_eq_true (by omega)
                    obtain rfl : false = r := (show vS s k xs = false from decide_eq_false (fun h => by have h9 := h.2.2.2.2.2.1; unfold RgOk at h9; omega)).symm.trans HR.out
                    go_wp2
                    go_ret
                    exact ⟨rfl, by first | exact (Below.refl _ _).alloc (Nat.le_refl _) _ | exact bdN ((Below.refl _ _).alloc (Nat.le_refl _) _) _ | exact bdN (bdN ((Below.refl _ _).alloc (Nat.le_refl _) _) _) _⟩
                  have dr1 : decide (65535 < s.a3) = false := decide_eq_false (by omega)
                  by_cases q2 : s.a4 < 0
                  · have dr2 : decide (s.a4 < 0) = true := decide_eq_true (by omega)
                    obtain rfl : false = r := (show vS s k xs = false from decide_eq_false (fun h => by have h9 := h.2.2.2.2.2.1; unfold RgOk at h9; omega)).symm.trans HR.out
                    go_wp2
                    go_ret
                    exact ⟨rfl, by first | exact (Below.refl _ _).alloc (Nat.le_refl _) _ | exact bdN ((Below.refl _ _).alloc (Nat.le_refl _) _) _ | exact bdN (bdN ((Below.refl _ _).alloc (Nat.le_refl _) _) _) _⟩
                  have dr2 : decide (s.a4 < 0) = false := decide_eq_false (by omega)
                  by_cases q3 : 64 < s.a4
                  · have dr3 : decide (64 < s.a4) = true := decide_eq_true (by omega)
                    obtain rfl : false = r := (show vS s k xs = false from decide_eq_false (fun h => by have h9 := h.2.2.2.2.2.1; unfold RgOk at h9; omega)).symm.trans HR.out
                    go_wp2
                    go_ret
                    exact ⟨rfl, by first | exact (Below.refl _ _).alloc (Nat.le_refl _) _ | exact bdN ((Below.refl _ _).alloc (Nat.le_refl _) _) _ | exact bdN (bdN ((Below.refl _ _).alloc (Nat.le_refl _) _) _) _⟩
                  have dr3 : decide (64 < s.a4) = false := decide_eq_false (by omega)
                  by_cases q4 : s.a5 < -1
                  · have dr4 : decide (s.a5 < -1) = true := decide_eq_true (by omega)
                    obtain rfl : false = r := (show vS s k xs = false from decide_eq_false (fun h => by have h9 := h.2.2.2.2.2.1; unfold RgOk at h9; omega)).symm.trans HR.out
                    go_wp2
                    go_ret
                    exact ⟨rfl, by first | exact (Below.refl _ _).alloc (Nat.le_refl _) _ | exact bdN ((Below.refl _ _).alloc (Nat.le_refl _) _) _ | exact bdN (bdN ((Below.refl _ _).alloc (Nat.le_refl _) _) _) _⟩
                  have dr4 : decide (s.a5 < -1) = false := decide_eq_false (by omega)
                  by_cases q5 : 256 < s.a5
                  · have dr5 : decide (256 < s.a5) = true := decide_eq_true (by omega)
                    obtain rfl : false = r := (show vS s k xs = false from decide_eq_false (fun h => by have h9 := h.2.2.2.2.2.1; unfold RgOk at h9; omega)).symm.trans HR.out
                    go_wp2
                    go_ret
                    exact ⟨rfl, by first | exact (Below.refl _ _).alloc (Nat.le_refl _) _ | exact bdN ((Below.refl _ _).alloc (Nat.le_refl _) _) _ | exact bdN (bdN ((Below.refl _ _).alloc (Nat.le_refl _) _) _) _⟩
                  have dr5 : decide (256 < s.a5) = false := decide_eq_false (by omega)
                  by_cases q6 : s.a6 < -64
                  · have dr6 : decide (s.a6 < -64) = true := decide_eq_true (by omega)
                    obtain rfl : false = r := (show vS s k xs = false from decide_eq_false (fun h => by have h9 := h.2.2.2.2.2.1; unfold RgOk at h9; omega)).symm.trans HR.out
                    go_wp2
                    go_ret
                    exact ⟨rfl, by first | exact (Below.refl _ _).alloc (Nat.le_refl _) _ | exact bdN ((Below.refl _ _).alloc (Nat.le_refl _) _) _ | exact bdN (bdN ((Below.refl _ _).alloc (Nat.le_refl _) _) _) _⟩
                  have dr6 : decide (s.a6 < -64) = false := decide_eq_false (by omega)
                  by_cases q7 : 63 < s.a6
                  · have dr7 : decide (63 < s.a6) = true := decide_eq_true (by omega)
                    obtain rfl : false = r := (show vS s k xs = false from decide_eq_false (fun h => by have h9 := h.2.2.2.2.2.1; unfold RgOk at h9; omega)).symm.trans HR.out
                    go_wp2
                    go_ret
                    exact ⟨rfl, by first | exact (Below.refl _ _).alloc (Nat.le_refl _) _ | exact bdN ((Below.refl _ _).alloc (Nat.le_refl _) _) _ | exact bdN (bdN ((Below.refl _ _).alloc (Nat.le_refl _) _) _) _⟩
                  have dr7 : decide (63 < s.a6) = false := decide_eq_false (by omega)
                  have HRg := Lib.hid (show RgOk s by unfold RgOk; omega)
                  clear q0 q1 q2 q3 q4 q5 q6 q7
                  cases hl1 : lpB s.a7 s.a8 s.a9 k
                  · have KL1 := Lib.hid fun (W : World) => (show Calls Try.prog 153 #[iv s.a7, iv s.a8, iv s.a9, iv k] W fun e w' => e = .returned (.bool false) ∧ W = w' from by have := loop_any s.a7 s.a8 s.a9 k W; rwa [hl1] at this)
                    obtain rfl : false = r := (show vS s k xs = false from decide_eq_false (fun h => absurd (decide_eq_true h.2.2.2.2.2.2.1) (by rw [show decide _ = lpB s.a7 s.a8 s.a9 k from rfl, hl1]; decide))).symm.trans HR.out
                    clear hl1
                    go_wp2_with (go_at_call 153; (with_reducible refine (KL1.out _).mono ?_); rintro e w8 ⟨rfl, rfl⟩)
                    go_ret
                    exact ⟨rfl, by first | exact (Below.refl _ _).alloc (Nat.le_refl _) _ | exact bdN ((Below.refl _ _).alloc (Nat.le_refl _) _) _ | exact bdN (bdN ((Below.refl _ _).alloc (Nat.le_refl _) _) _) _⟩
                  · have KL1 := Lib.hid fun (W : World) => (show Calls Try.prog 153 #[iv s.a7, iv s.a8, iv s.a9, iv k] W fun e w' => e = .returned (.bool true) ∧ W = w' from by have := loop_any s.a7 s.a8 s.a9 k W; rwa [hl1] at this)
                    cases hl2 : lpB s.a10 s.a11 s.a12 k
                    · have KL2 := Lib.hid fun (W : World) => (show Calls Try.prog 153 #[iv s.a10, iv s.a11, iv s.a12, iv k] W fun e w' => e = .returned (.bool false) ∧ W = w' from by have := loop_any s.a10 s.a11 s.a12 k W; rwa [hl2] at this)
                      obtain rfl : false = r := (show vS s k xs = false from decide_eq_false (fun h => absurd (decide_eq_true h.2.2.2.2.2.2.2) (by rw [show decide _ = lpB s.a10 s.a11 s.a12 k from rfl, hl2]; decide))).symm.trans HR.out
                      clear hl1 hl2
                      go_wp2_with (first
                        | (go_at_call 153; (with_reducible refine (KL1.out _).mono ?_); rintro e w8 ⟨rfl, rfl⟩)
                        | (go_at_call 153; (with_reducible refine (KL2.out _).mono ?_); rintro e w8 ⟨rfl, rfl⟩))
                      go_ret
                      exact ⟨rfl, by first | exact (Below.refl _ _).alloc (Nat.le_refl _) _ | exact bdN ((Below.refl _ _).alloc (Nat.le_refl _) _) _ | exact bdN (bdN ((Below.refl _ _).alloc (Nat.le_refl _) _) _) _⟩
                    · have KL2 := Lib.hid fun (W : World) => (show Calls Try.prog 153 #[iv s.a10, iv s.a11, iv s.a12, iv k] W fun e w' => e = .returned (.bool true) ∧ W = w' from by have := loop_any s.a10 s.a11 s.a12 k W; rwa [hl2] at this)
                      obtain rfl : true = r := (show vS s k xs = true from decide_eq_true ⟨H0.out, H1.out, H2.out, HNm.out, HF.out, HRg.out, of_decide_eq_true hl1, of_decide_eq_true hl2⟩).symm.trans HR.out
                      clear hl1 hl2
                      go_wp2_with (first
                        | (go_at_call 153; (with_reducible refine (KL1.out _).mono ?_); rintro e w8 ⟨rfl, rfl⟩)
                        | (go_at_call 153; (with_reducible refine (KL2.out _).mono ?_); rintro e w8 ⟨rfl, rfl⟩))
                      go_ret
                      exact ⟨rfl, by first | exact (Below.refl _ _).alloc (Nat.le_refl _) _ | exact bdN ((Below.refl _ _).alloc (Nat.le_refl _) _) _ | exact bdN (bdN ((Below.refl _ _).alloc (Nat.le_refl _) _) _) _⟩
      · have d4 : decide (4096 < (n : Int)) = true := decide_eq_true (by omega)
        have d4n : decide (4096 < n) = true := decide_eq_true (by omega)
        by_cases h8 : s.a2 = 8
        · have e8 : (s.a2 != 8) = false := by simp [h8]
          obtain rfl : false = r := (show vS s n xs = false from decide_eq_false (fun h => h2 h.2.2.1)).symm.trans HR.out
          clear h0 h1 h2 h8
          go_enter Try.func95, Try.ntmps95
          go_wp2
          go_ret
          exact ⟨rfl, by first | exact (Below.refl _ _).alloc (Nat.le_refl _) _ | exact bdN ((Below.refl _ _).alloc (Nat.le_refl _) _) _ | exact bdN (bdN ((Below.refl _ _).alloc (Nat.le_refl _) _) _) _⟩
        · have h16 : s.a2 = 16 := by omega
          have e8 : (s.a2 != 8) = true := by simp [h8]
          have e16 : (s.a2 != 16) = false := by simp [h16]
          obtain rfl : false = r := (show vS s n xs = false from decide_eq_false (fun h => h2 h.2.2.1)).symm.trans HR.out
          clear h0 h1 h2 h8 h16
          go_enter Try.func95, Try.ntmps95
          go_wp2
          go_ret
          exact ⟨rfl, by first | exact (Below.refl _ _).alloc (Nat.le_refl _) _ | exact bdN ((Below.refl _ _).alloc (Nat.le_refl _) _) _ | exact bdN (bdN ((Below.refl _ _).alloc (Nat.le_refl _) _) _) _⟩
    · have h8 : ¬ s.a2 = 8 := fun h => h1 (.inl h)
      have h16 : ¬ s.a2 = 16 := fun h => h1 (.inr h)
      have e8 : (s.a2 != 8) = true := by simp [h8]
      have e16 : (s.a2 != 16) = true := by simp [h16]
      obtain rfl : false = r := (show vS s n xs = false from decide_eq_false (fun h => h1 h.2.1)).symm.trans HR.out
      clear h0 h1 h8 h16
      go_enter Try.func95, Try.ntmps95
      go_wp2
      go_ret
      exact ⟨rfl, by first | exact (Below.refl _ _).alloc (Nat.le_refl _) _ | exact bdN ((Below.refl _ _).alloc (Nat.le_refl _) _) _ | exact bdN (bdN ((Below.refl _ _).alloc (Nat.le_refl _) _) _) _⟩
  · have d0 : decide (22 < (s.nm.size : Int)) = true := decide_eq_true (by omega)
    have d0n : decide (22 < s.nm.size) = true := decide_eq_true (by omega)
    obtain rfl : false = r := (show vS s n xs = false from decide_eq_false (fun h => h0 h.1)).symm.trans HR.out
    clear h0
    go_enter Try.func95, Try.ntmps95
    go_wp2
    go_ret
    exact ⟨rfl, by first | exact (Below.refl _ _).alloc (Nat.le_refl _) _ | exact bdN ((Below.refl _ _).alloc (Nat.le_refl _) _) _ | exact bdN (bdN ((Below.refl _ _).alloc (Nat.le_refl _) _) _) _⟩
set_option maxHeartbeats 16000000 in
set_option maxRecDepth 100000 in
theorem rvalid_any (s : S) (A : Option Addr) (n c0 b o : Nat) (xs : Nat → Int) (hn : n ≤ 9223372036854775807) (hc0 : n ≤ c0) (w : World) (hA : DataAt w A n b o xs) : Calls Try.prog 33 #[.agg (s.cs A n c0)] w fun e w' => e = .returned (.bool (vS s n xs)) ∧ Below w.heap.size w w' := by
  have y0 : (s.cs A n c0)[0]? = some (.string s.nm) := rfl
  have y1 : (s.cs A n c0)[1]? = some (.slice A n c0) := rfl
  have y2 : (s.cs A n c0)[2]? = some (iv s.a2) := rfl
  have y3 : (s.cs A n c0)[3]? = some (iv s.a3) := rfl
  have y4 : (s.cs A n c0)[4]? = some (iv s.a4) := rfl
  have y5 : (s.cs A n c0)[5]? = some (iv s.a5) := rfl
  have y6 : (s.cs A n c0)[6]? = some (iv s.a6) := rfl
  have y7 : (s.cs A n c0)[7]? = some (iv s.a7) := rfl
  have y8 : (s.cs A n c0)[8]? = some (iv s.a8) := rfl
  have y9 : (s.cs A n c0)[9]? = some (iv s.a9) := rfl
  have y10 : (s.cs A n c0)[10]? = some (iv s.a10) := rfl
  have y11 : (s.cs A n c0)[11]? = some (iv s.a11) := rfl
  have y12 : (s.cs A n c0)[12]? = some (iv s.a12) := rfl
  obtain ⟨r, hr⟩ : ∃ r, vS s n xs = r := ⟨_, rfl⟩
  rw [hr]
  have HR := Lib.hid hr
  clear hr
  have HD := Lib.hid hA
  have TD := Lib.hid hA.top
  clear hA
  by_cases h0 : s.nm.size ≤ 22 ∧ NameOk s.nm
  · have NQ := Lib.hid fun (W : World) => (show Calls Try.prog 92 #[.string s.nm] W fun e w' => e = .returned (.bool true) ∧ W = w' from by have := named_any s.nm W; rwa [decide_eq_true h0] at this)
    by_cases h1 : s.a2 = 8 ∨ s.a2 = 16
    · by_cases h2 : n ≤ 4096
      · have d4 : decide (4096 < (n : Int)) = false := decide_eq_false (by omega)
        have d4n : decide (4096 < n) = false := decide_eq_false (by omega)
        have HBT := Lib.hid (show Bits s.a2 (hb s.a2) by
          unfold hb Bits
          rcases h1 with h | h
          · rw [if_pos h]; exact .inl ⟨h, rfl⟩
          · rw [if_neg (by omega)]; exact .inr ⟨h, rfl⟩)
        have H0 := Lib.hid h0.1
        have HNm := Lib.hid h0.2
        have H1 := Lib.hid h1
        have H2 := Lib.hid h2
        have l1 : (n : Int) ≤ 4096 := by omega
        have l2 : (0 : Int) ≤ (n : Int) := by omega
        by_cases h8 : s.a2 = 8
        · have e8 : (s.a2 != 8) = false := by simp [h8]
          by_cases q0 : s.a3 < 1
          · have dr0 : decide (s.a3 < 1) = true := decide_eq_true (by omega)
            obtain rfl : false = r := (show vS s n xs = false from decide_eq_false (fun h => by have h9 := h.2.2.2.2.2.1; unfold RgOk at h9; omega)).symm.trans HR.out
            clear h0 h1 h2 h8
            go_enter Try.func33, Try.ntmps33
            go_wp2_with (go_at_call 92; (with_reducible refine (NQ.out _).mono ?_); rintro e w7 ⟨rfl, rfl⟩)
            go_ret
            exact ⟨rfl, by first | exact (Below.refl _ _).alloc (Nat.le_refl _) _ | exact bdN ((Below.refl _ _).alloc (Nat.le_refl _) _) _ | exact bdN (bdN ((Below.refl _ _).alloc (Nat.le_refl _) _) _) _⟩
          have dr0 : decide (s.a3 < 1) = false := decide_eq_false (by omega)
          by_cases q1 : 65535 < s.a3
          · have dr1 : decide (65535 < s.a3) = true := decide_eq_true (by omega)
            obtain rfl : false = r := (show vS s n xs = false from decide_eq_false (fun h => by have h9 := h.2.2.2.2.2.1; unfold RgOk at h9; omega)).symm.trans HR.out
            clear h0 h1 h2 h8
            go_enter Try.func33, Try.ntmps33
            go_wp2_with (go_at_call 92; (with_reducible refine (NQ.out _).mono ?_); rintro e w7 ⟨rfl, rfl⟩)
            go_ret
            exact ⟨rfl, by first | exact (Below.refl _ _).alloc (Nat.le_refl _) _ | exact bdN ((Below.refl _ _).alloc (Nat.le_refl _) _) _ | exact bdN (bdN ((Below.refl _ _).alloc (Nat.le_refl _) _) _) _⟩
          have dr1 : decide (65535 < s.a3) = false := decide_eq_false (by omega)
          by_cases q2 : s.a4 < 0
          · have dr2 : decide (s.a4 < 0) = true := decide_eq_true (by omega)
            obtain rfl : false = r := (show vS s n xs = false from decide_eq_false (fun h => by have h9 := h.2.2.2.2.2.1; unfold RgOk at h9; omega)).symm.trans HR.out
            clear h0 h1 h2 h8
            go_enter Try.func33, Try.ntmps33
            go_wp2_with (go_at_call 92; (with_reducible refine (NQ.out _).mono ?_); rintro e w7 ⟨rfl, rfl⟩)
            go_ret
            exact ⟨rfl, by first | exact (Below.refl _ _).alloc (Nat.le_refl _) _ | exact bdN ((Below.refl _ _).alloc (Nat.le_refl _) _) _ | exact bdN (bdN ((Below.refl _ _).alloc (Nat.le_refl _) _) _) _⟩
          have dr2 : decide (s.a4 < 0) = false := decide_eq_false (by omega)
          by_cases q3 : 64 < s.a4
          · have dr3 : decide (64 < s.a4) = true := decide_eq_true (by omega)
            obtain rfl : false = r := (show vS s n xs = false from decide_eq_false (fun h => by have h9 := h.2.2.2.2.2.1; unfold RgOk at h9; omega)).symm.trans HR.out
            clear h0 h1 h2 h8
            go_enter Try.func33, Try.ntmps33
            go_wp2_with (go_at_call 92; (with_reducible refine (NQ.out _).mono ?_); rintro e w7 ⟨rfl, rfl⟩)
            go_ret
            exact ⟨rfl, by first | exact (Below.refl _ _).alloc (Nat.le_refl _) _ | exact bdN ((Below.refl _ _).alloc (Nat.le_refl _) _) _ | exact bdN (bdN ((Below.refl _ _).alloc (Nat.le_refl _) _) _) _⟩
          have dr3 : decide (64 < s.a4) = false := decide_eq_false (by omega)
          by_cases q4 : s.a5 < -1
          · have dr4 : decide (s.a5 < -1) = true := decide_eq_true (by omega)
            obtain rfl : false = r := (show vS s n xs = false from decide_eq_false (fun h => by have h9 := h.2.2.2.2.2.1; unfold RgOk at h9; omega)).symm.trans HR.out
            clear h0 h1 h2 h8
            go_enter Try.func33, Try.ntmps33
            go_wp2_with (go_at_call 92; (with_reducible refine (NQ.out _).mono ?_); rintro e w7 ⟨rfl, rfl⟩)
            go_ret
            exact ⟨rfl, by first | exact (Below.refl _ _).alloc (Nat.le_refl _) _ | exact bdN ((Below.refl _ _).alloc (Nat.le_refl _) _) _ | exact bdN (bdN ((Below.refl _ _).alloc (Nat.le_refl _) _) _) _⟩
          have dr4 : decide (s.a5 < -1) = false := decide_eq_false (by omega)
          by_cases q5 : 256 < s.a5
          · have dr5 : decide (256 < s.a5) = true := decide_eq_true (by omega)
            obtain rfl : false = r := (show vS s n xs = false from decide_eq_false (fun h => by have h9 := h.2.2.2.2.2.1; unfold RgOk at h9; omega)).symm.trans HR.out
            clear h0 h1 h2 h8
            go_enter Try.func33, Try.ntmps33
            go_wp2_with (go_at_call 92; (with_reducible refine (NQ.out _).mono ?_); rintro e w7 ⟨rfl, rfl⟩)
            go_ret
            exact ⟨rfl, by first | exact (Below.refl _ _).alloc (Nat.le_refl _) _ | exact bdN ((Below.refl _ _).alloc (Nat.le_refl _) _) _ | exact bdN (bdN ((Below.refl _ _).alloc (Nat.le_refl _) _) _) _⟩
          have dr5 : decide (256 < s.a5) = false := decide_eq_false (by omega)
          by_cases q6 : s.a6 < -64
          · have dr6 : decide (s.a6 < -64) = true := decide_eq_true (by omega)
            obtain rfl : false = r := (show vS s n xs = false from decide_eq_false (fun h => by have h9 := h.2.2.2.2.2.1; unfold RgOk at h9; omega)).symm.trans HR.out
            clear h0 h1 h2 h8
            go_enter Try.func33, Try.ntmps33
            go_wp2_with (go_at_call 92; (with_reducible refine (NQ.out _).mono ?_); rintro e w7 ⟨rfl, rfl⟩)
            go_ret
            exact ⟨rfl, by first | exact (Below.refl _ _).alloc (Nat.le_refl _) _ | exact bdN ((Below.refl _ _).alloc (Nat.le_refl _) _) _ | exact bdN (bdN ((Below.refl _ _).alloc (Nat.le_refl _) _) _) _⟩
          have dr6 : decide (s.a6 < -64) = false := decide_eq_false (by omega)
          by_cases q7 : 63 < s.a6
          · have dr7 : decide (63 < s.a6) = true := decide_eq_true (by omega)
            obtain rfl : false = r := (show vS s n xs = false from decide_eq_false (fun h => by have h9 := h.2.2.2.2.2.1; unfold RgOk at h9; omega)).symm.trans HR.out
            clear h0 h1 h2 h8
            go_enter Try.func33, Try.ntmps33
            go_wp2_with (go_at_call 92; (with_reducible refine (NQ.out _).mono ?_); rintro e w7 ⟨rfl, rfl⟩)
            go_ret
            exact ⟨rfl, by first | exact (Below.refl _ _).alloc (Nat.le_refl _) _ | exact bdN ((Below.refl _ _).alloc (Nat.le_refl _) _) _ | exact bdN (bdN ((Below.refl _ _).alloc (Nat.le_refl _) _) _) _⟩
          have dr7 : decide (63 < s.a6) = false := decide_eq_false (by omega)
          have HRg := Lib.hid (show RgOk s by unfold RgOk; omega)
          clear h0 h1 h2 h8 q0 q1 q2 q3 q4 q5 q6 q7
          go_enter Try.func33, Try.ntmps33
          go_upto_region 5 with (go_at_call 92; (with_reducible refine (NQ.out _).mono ?_); rintro e w7 ⟨rfl, rfl⟩)
          clear d4 d4n e8 dr0 dr1 dr2 dr3 dr4 dr5 dr6 dr7
          have B1 : Below w.heap.size w (w.alloc (Obj.cells (s.cs A n c0) 31)) := (Below.refl _ _).alloc (Nat.le_refl _) _
          have D4 := Lib.hid (HD.out.later B1)
          go_loopw [4] (fun v wr => ∃ k : Nat, k ≤ n ∧ v = iv k ∧ (∀ j, j < k → -(hb s.a2) ≤ xs j ∧ xs j ≤ hb s.a2 - 1) ∧ ∃ m, wr = (w.alloc (Obj.cells (s.cs A n c0) 31)).drewN m) (fun v _ => n - (intOf v).toNat)
          case atStart => exact ⟨0, by omega, rfl, fun j hj => by omega, 0, rfl⟩
          case round =>
            obtain ⟨k, hk, rfl, hj, m, rfl⟩ := hrel
            have HJ := Lib.hid hj
            clear hj
            have l3 : (0 : Int) ≤ (k : Int) := by omega
            by_cases hlt : k < n
            · have l4 : (k : Int) < (n : Int) := by omega
              have tA := TD.out (by omega)
              subst tA
              have e0 := D4.out.cell k hlt
              have c1 := (bkCell (heap_alloc_new w (Obj.cells (s.cs (some ⟨b, o, none⟩) n c0) 31)) 1).trans (show _ = some (.slice (some ⟨b, o, none⟩) n c0) from rfl)
              have c2 := (bkCell (heap_alloc_new w (Obj.cells (s.cs (some ⟨b, o, none⟩) n c0) 31)) 2).trans (show _ = some (iv s.a2) from rfl)
              obtain ⟨v, hv⟩ : ∃ v, xs k = v := ⟨_, rfl⟩
              rw [hv] at e0
              have HV := Lib.hid hv
              clear hv
              by_cases q1 : -(hb s.a2) ≤ v ∧ v ≤ hb s.a2 - 1
              · have FQ := Lib.hid fun (W : World) => (show Calls Try.prog 93 #[iv v, iv s.a2] W fun e w' => e = .returned (.bool true) ∧ W = w' from by have := fits_any v s.a2 (hb s.a2) HBT.out W; rwa [decide_eq_true q1] at this)
                have HQ := Lib.hid q1
                clear q1
                go_wp2
                go_quiet ((go_at_call 93; exact quietL (FQ.out _)))
                go_wp2
                exact ⟨⟨k + 1, by omega, by go_num, fun j hj => by
                  rcases (by omega : j < k ∨ j = k) with e | rfl
                  · exact HJ.out j e
                  · rw [HV.out]; exact HQ.out, _, rfl⟩, by simp [intOf]; omega⟩
              · have FQ := Lib.hid fun (W : World) => (show Calls Try.prog 93 #[iv v, iv s.a2] W fun e w' => e = .returned (.bool false) ∧ W = w' from by have := fits_any v s.a2 (hb s.a2) HBT.out W; rwa [decide_eq_false q1] at this)
                have HQ := Lib.hid q1
                obtain rfl : false = r := (show vS s n xs = false from decide_eq_false (fun h => HQ.out (by have h9 := h.2.2.2.2.1 k hlt; rwa [HV.out] at h9))).symm.trans HR.out
                clear q1
                go_wp2
                go_quiet ((go_at_call 93; exact quietL (FQ.out _)))
                go_wp2
                go_ret
                exact ⟨rfl, by first | exact (Below.refl _ _).alloc (Nat.le_refl _) _ | exact bdN ((Below.refl _ _).alloc (Nat.le_refl _) _) _ | exact bdN (bdN ((Below.refl _ _).alloc (Nat.le_refl _) _) _) _⟩
            · obtain rfl : k = n := by omega
              have HF := Lib.hid (show FrOk (hb s.a2) k xs from fun i h => HJ.out i h)
              clear HJ hlt l3 hk D4
              cases hl1 : lpB s.a7 s.a8 s.a9 k
              · have KL1 := Lib.hid fun (W : World) => (show Calls Try.prog 94 #[iv s.a7, iv s.a8, iv s.a9, iv k] W fun e w' => e = .returned (.bool false) ∧ W = w' from by have := rloop_any s.a7 s.a8 s.a9 k W; rwa [hl1] at this)
                obtain rfl : false = r := (show vS s k xs = false from decide_eq_false (fun h => absurd (decide_eq_true h.2.2.2.2.2.2.1) (by rw [show decide _ = lpB s.a7 s.a8 s.a9 k from rfl, hl1]; decide))).symm.trans HR.out
                clear hl1
                go_wp2_with (go_at_call 94; (with_reducible refine (KL1.out _).mono ?_); rintro e w8 ⟨rfl, rfl⟩)
                go_ret
                exact ⟨rfl, by first | exact (Below.refl _ _).alloc (Nat.le_refl _) _ | exact bdN ((Below.refl _ _).alloc (Nat.le_refl _) _) _ | exact bdN (bdN ((Below.refl _ _).alloc (Nat.le_refl _) _) _) _⟩
              · have KL1 := Lib.hid fun (W : World) => (show Calls Try.prog 94 #[iv s.a7, iv s.a8, iv s.a9, iv k] W fun e w' => e = .returned (.bool true) ∧ W = w' from by have := rloop_any s.a7 s.a8 s.a9 k W; rwa [hl1] at this)
                cases hl2 : lpB s.a10 s.a11 s.a12 k
                · have KL2 := Lib.hid fun (W : World) => (show Calls Try.prog 94 #[iv s.a10, iv s.a11, iv s.a12, iv k] W fun e w' => e = .returned (.bool false) ∧ W = w' from by have := rloop_any s.a10 s.a11 s.a12 k W; rwa [hl2] at this)
                  obtain rfl : false = r := (show vS s k xs = false from decide_eq_false (fun h => absurd (decide_eq_true h.2.2.2.2.2.2.2) (by rw [show decide _ = lpB s.a10 s.a11 s.a12 k from rfl, hl2]; decide))).symm.trans HR.out
                  clear hl1 hl2
                  go_wp2_with (first
                    | (go_at_call 94; (with_reducible refine (KL1.out _).mono ?_); rintro e w8 ⟨rfl, rfl⟩)
                    | (go_at_call 94; (with_reducible refine (KL2.out _).mono ?_); rintro e w8 ⟨rfl, rfl⟩))
                  go_ret
                  exact ⟨rfl, by first | exact (Below.refl _ _).alloc (Nat.le_refl _) _ | exact bdN ((Below.refl _ _).alloc (Nat.le_refl _) _) _ | exact bdN (bdN ((Below.refl _ _).alloc (Nat.le_refl _) _) _) _⟩
                · have KL2 := Lib.hid fun (W : World) => (show Calls Try.prog 94 #[iv s.a10, iv s.a11, iv s.a12, iv k] W fun e w' => e = .returned (.bool true) ∧ W = w' from by have := rloop_any s.a10 s.a11 s.a12 k W; rwa [hl2] at this)
                  obtain rfl : true = r := (show vS s k xs = true from decide_eq_true ⟨H0.out, H1.out, H2.out, HNm.out, HF.out, HRg.out, of_decide_eq_true hl1, of_decide_eq_true hl2⟩).symm.trans HR.out
                  clear hl1 hl2
                  go_wp2_with (first
                    | (go_at_call 94; (with_reducible refine (KL1.out _).mono ?_); rintro e w8 ⟨rfl, rfl⟩)
                    | (go_at_call 94; (with_reducible refine (KL2.out _).mono ?_); rintro e w8 ⟨rfl, rfl⟩))
                  go_ret
                  exact ⟨rfl, by first | exact (Below.refl _ _).alloc (Nat.le_refl _) _ | exact bdN ((Below.refl _ _).alloc (Nat.le_refl _) _) _ | exact bdN (bdN ((Below.refl _ _).alloc (Nat.le_refl _) _) _) _⟩
        · have h16 : s.a2 = 16 := by omega
          have e8 : (s.a2 != 8) = true := by simp [h8]
          have e16 : (s.a2 != 16) = false := by simp [h16]
          by_cases q0 : s.a3 < 1
          · have dr0 : decide (s.a3 < 1) = true := decide_eq_true (by omega)
            obtain rfl : false = r := (show vS s n xs = false from decide_eq_false (fun h => by have h9 := h.2.2.2.2.2.1; unfold RgOk at h9; omega)).symm.trans HR.out
            clear h0 h1 h2 h8 h16
            go_enter Try.func33, Try.ntmps33
            go_wp2_with (go_at_call 92; (with_reducible refine (NQ.out _).mono ?_); rintro e w7 ⟨rfl, rfl⟩)
            go_ret
            exact ⟨rfl, by first | exact (Below.refl _ _).alloc (Nat.le_refl _) _ | exact bdN ((Below.refl _ _).alloc (Nat.le_refl _) _) _ | exact bdN (bdN ((Below.refl _ _).alloc (Nat.le_refl _) _) _) _⟩
          have dr0 : decide (s.a3 < 1) = false := decide_eq_false (by omega)
          by_cases q1 : 65535 < s.a3
          · have dr1 : decide (65535 < s.a3) = true := decide_eq_true (by omega)
            obtain rfl : false = r := (show vS s n xs = false from decide_eq_false (fun h => by have h9 := h.2.2.2.2.2.1; unfold RgOk at h9; omega)).symm.trans HR.out
            clear h0 h1 h2 h8 h16
            go_enter Try.func33, Try.ntmps33
            go_wp2_with (go_at_call 92; (with_reducible refine (NQ.out _).mono ?_); rintro e w7 ⟨rfl, rfl⟩)
            go_ret
            exact ⟨rfl, by first | exact (Below.refl _ _).alloc (Nat.le_refl _) _ | exact bdN ((Below.refl _ _).alloc (Nat.le_refl _) _) _ | exact bdN (bdN ((Below.refl _ _).alloc (Nat.le_refl _) _) _) _⟩
          have dr1 : decide (65535 < s.a3) = false := decide_eq_false (by omega)
          by_cases q2 : s.a4 < 0
          · have dr2 : decide (s.a4 < 0) = true := decide_eq_true (by omega)
            obtain rfl : false = r := (show vS s n xs = false from decide_eq_false (fun h => by have h9 := h.2.2.2.2.2.1; unfold RgOk at h9; omega)).symm.trans HR.out
            clear h0 h1 h2 h8 h16
            go_enter Try.func33, Try.ntmps33
            go_wp2_with (go_at_call 92; (with_reducible refine (NQ.out _).mono ?_); rintro e w7 ⟨rfl, rfl⟩)
            go_ret
            exact ⟨rfl, by first | exact (Below.refl _ _).alloc (Nat.le_refl _) _ | exact bdN ((Below.refl _ _).alloc (Nat.le_refl _) _) _ | exact bdN (bdN ((Below.refl _ _).alloc (Nat.le_refl _) _) _) _⟩
          have dr2 : decide (s.a4 < 0) = false := decide_eq_false (by omega)
          by_cases q3 : 64 < s.a4
          · have dr3 : decide (64 < s.a4) = true := decide_eq_true (by omega)
            obtain rfl : false = r := (show vS s n xs = false from decide_eq_false (fun h => by have h9 := h.2.2.2.2.2.1; unfold RgOk at h9; omega)).symm.trans HR.out
            clear h0 h1 h2 h8 h16
            go_enter Try.func33, Try.ntmps33
            go_wp2_with (go_at_call 92; (with_reducible refine (NQ.out _).mono ?_); rintro e w7 ⟨rfl, rfl⟩)
            go_ret
            exact ⟨rfl, by first | exact (Below.refl _ _).alloc (Nat.le_refl _) _ | exact bdN ((Below.refl _ _).alloc (Nat.le_refl _) _) _ | exact bdN (bdN ((Below.refl _ _).alloc (Nat.le_refl _) _) _) _⟩
          have dr3 : decide (64 < s.a4) = false := decide_eq_false (by omega)
          by_cases q4 : s.a5 < -1
          · have dr4 : decide (s.a5 < -1) = true := decide_eq_true (by omega)
            obtain rfl : false = r := (show vS s n xs = false from decide_eq_false (fun h => by have h9 := h.2.2.2.2.2.1; unfold RgOk at h9; omega)).symm.trans HR.out
            clear h0 h1 h2 h8 h16
            go_enter Try.func33, Try.ntmps33
            go_wp2_with (go_at_call 92; (with_reducible refine (NQ.out _).mono ?_); rintro e w7 ⟨rfl, rfl⟩)
            go_ret
            exact ⟨rfl, by first | exact (Below.refl _ _).alloc (Nat.le_refl _) _ | exact bdN ((Below.refl _ _).alloc (Nat.le_refl _) _) _ | exact bdN (bdN ((Below.refl _ _).alloc (Nat.le_refl _) _) _) _⟩
          have dr4 : decide (s.a5 < -1) = false := decide_eq_false (by omega)
          by_cases q5 : 256 < s.a5
          · have dr5 : decide (256 < s.a5) = true := decide_eq_true (by omega)
            obtain rfl : false = r := (show vS s n xs = false from decide_eq_false (fun h => by have h9 := h.2.2.2.2.2.1; unfold RgOk at h9; omega)).symm.trans HR.out
            clear h0 h1 h2 h8 h16
            go_enter Try.func33, Try.ntmps33
            go_wp2_with (go_at_call 92; (with_reducible refine (NQ.out _).mono ?_); rintro e w7 ⟨rfl, rfl⟩)
            go_ret
            exact ⟨rfl, by first | exact (Below.refl _ _).alloc (Nat.le_refl _) _ | exact bdN ((Below.refl _ _).alloc (Nat.le_refl _) _) _ | exact bdN (bdN ((Below.refl _ _).alloc (Nat.le_refl _) _) _) _⟩
          have dr5 : decide (256 < s.a5) = false := decide_eq_false (by omega)
          by_cases q6 : s.a6 < -64
          · have dr6 : decide (s.a6 < -64) = true := decide_eq_true (by omega)
            obtain rfl : false = r := (show vS s n xs = false from decide_eq_false (fun h => by have h9 := h.2.2.2.2.2.1; unfold RgOk at h9; omega)).symm.trans HR.out
            clear h0 h1 h2 h8 h16
            go_enter Try.func33, Try.ntmps33
            go_wp2_with (go_at_call 92; (with_reducible refine (NQ.out _).mono ?_); rintro e w7 ⟨rfl, rfl⟩)
            go_ret
            exact ⟨rfl, by first | exact (Below.refl _ _).alloc (Nat.le_refl _) _ | exact bdN ((Below.refl _ _).alloc (Nat.le_refl _) _) _ | exact bdN (bdN ((Below.refl _ _).alloc (Nat.le_refl _) _) _) _⟩
          have dr6 : decide (s.a6 < -64) = false := decide_eq_false (by omega)
          by_cases q7 : 63 < s.a6
          · have dr7 : decide (63 < s.a6) = true := decide_eq_true (by omega)
            obtain rfl : false = r := (show vS s n xs = false from decide_eq_false (fun h => by have h9 := h.2.2.2.2.2.1; unfold RgOk at h9; omega)).symm.trans HR.out
            clear h0 h1 h2 h8 h16
            go_enter Try.func33, Try.ntmps33
            go_wp2_with (go_at_call 92; (with_reducible refine (NQ.out _).mono ?_); rintro e w7 ⟨rfl, rfl⟩)
            go_ret
            exact ⟨rfl, by first | exact (Below.refl _ _).alloc (Nat.le_refl _) _ | exact bdN ((Below.refl _ _).alloc (Nat.le_refl _) _) _ | exact bdN (bdN ((Below.refl _ _).alloc (Nat.le_refl _) _) _) _⟩
          have dr7 : decide (63 < s.a6) = false := decide_eq_false (by omega)
          have HRg := Lib.hid (show RgOk s by unfold RgOk; omega)
          clear h0 h1 h2 h8 h16 q0 q1 q2 q3 q4 q5 q6 q7
          go_enter Try.func33, Try.ntmps33
          go_upto_region 5 with (go_at_call 92; (with_reducible refine (NQ.out _).mono ?_); rintro e w7 ⟨rfl, rfl⟩)
          clear d4 d4n e8 e16 dr0 dr1 dr2 dr3 dr4 dr5 dr6 dr7
          have B1 : Below w.heap.size w (w.alloc (Obj.cells (s.cs A n c0) 31)) := (Below.refl _ _).alloc (Nat.le_refl _) _
          have D4 := Lib.hid (HD.out.later B1)
          go_loopw [4] (fun v wr => ∃ k : Nat, k ≤ n ∧ v = iv k ∧ (∀ j, j < k → -(hb s.a2) ≤ xs j ∧ xs j ≤ hb s.a2 - 1) ∧ ∃ m, wr = (w.alloc (Obj.cells (s.cs A n c0) 31)).drewN m) (fun v _ => n - (intOf v).toNat)
          case atStart => exact ⟨0, by omega, rfl, fun j hj => by omega, 0, rfl⟩
          case round =>
            obtain ⟨k, hk, rfl, hj, m, rfl⟩ := hrel
            have HJ := Lib.hid hj
            clear hj
            have l3 : (0 : Int) ≤ (k : Int) := by omega
            by_cases hlt : k < n
            · have l4 : (k : Int) < (n : Int) := by omega
              have tA := TD.out (by omega)
              subst tA
              have e0 := D4.out.cell k hlt
              have c1 := (bkCell (heap_alloc_new w (Obj.cells (s.cs (some ⟨b, o, none⟩) n c0) 31)) 1).trans (show _ = some (.slice (some ⟨b, o, none⟩) n c0) from rfl)
              have c2 := (bkCell (heap_alloc_new w (Obj.cells (s.cs (some ⟨b, o, none⟩) n c0) 31)) 2).trans (show _ = some (iv s.a2) from rfl)
              obtain ⟨v, hv⟩ : ∃ v, xs k = v := ⟨_, rfl⟩
              rw [hv] at e0
              have HV := Lib.hid hv
              clear hv
              by_cases q1 : -(hb s.a2) ≤ v ∧ v ≤ hb s.a2 - 1
              · have FQ := Lib.hid fun (W : World) => (show Calls Try.prog 93 #[iv v, iv s.a2] W fun e w' => e = .returned (.bool true) ∧ W = w' from by have := fits_any v s.a2 (hb s.a2) HBT.out W; rwa [decide_eq_true q1] at this)
                have HQ := Lib.hid q1
                clear q1
                go_wp2
                go_quiet ((go_at_call 93; exact quietL (FQ.out _)))
                go_wp2
                exact ⟨⟨k + 1, by omega, by go_num, fun j hj => by
                  rcases (by omega : j < k ∨ j = k) with e | rfl
                  · exact HJ.out j e
                  · rw [HV.out]; exact HQ.out, _, rfl⟩, by simp [intOf]; omega⟩
              · have FQ := Lib.hid fun (W : World) => (show Calls Try.prog 93 #[iv v, iv s.a2] W fun e w' => e = .returned (.bool false) ∧ W = w' from by have := fits_any v s.a2 (hb s.a2) HBT.out W; rwa [decide_eq_false q1] at this)
                have HQ := Lib.hid q1
                obtain rfl : false = r := (show vS s n xs = false from decide_eq_false (fun h => HQ.out (by have h9 := h.2.2.2.2.1 k hlt; rwa [HV.out] at h9))).symm.trans HR.out
                clear q1
                go_wp2
                go_quiet ((go_at_call 93; exact quietL (FQ.out _)))
                go_wp2
                go_ret
                exact ⟨rfl, by first | exact (Below.refl _ _).alloc (Nat.le_refl _) _ | exact bdN ((Below.refl _ _).alloc (Nat.le_refl _) _) _ | exact bdN (bdN ((Below.refl _ _).alloc (Nat.le_refl _) _) _) _⟩
            · obtain rfl : k = n := by omega
              have HF := Lib.hid (show FrOk (hb s.a2) k xs from fun i h => HJ.out i h)
              clear HJ hlt l3 hk D4
              cases hl1 : lpB s.a7 s.a8 s.a9 k
              · have KL1 := Lib.hid fun (W : World) => (show Calls Try.prog 94 #[iv s.a7, iv s.a8, iv s.a9, iv k] W fun e w' => e = .returned (.bool false) ∧ W = w' from by have := rloop_any s.a7 s.a8 s.a9 k W; rwa [hl1] at this)
                obtain rfl : false = r := (show vS s k xs = false from decide_eq_false (fun h => absurd (decide_eq_true h.2.2.2.2.2.2.1) (by rw [show decide _ = lpB s.a7 s.a8 s.a9 k from rfl, hl1]; decide))).symm.trans HR.out
                clear hl1
                go_wp2_with (go_at_call 94; (with_reducible refine (KL1.out _).mono ?_); rintro e w8 ⟨rfl, rfl⟩)
                go_ret
                exact ⟨rfl, by first | exact (Below.refl _ _).alloc (Nat.le_refl _) _ | exact bdN ((Below.refl _ _).alloc (Nat.le_refl _) _) _ | exact bdN (bdN ((Below.refl _ _).alloc (Nat.le_refl _) _) _) _⟩
              · have KL1 := Lib.hid fun (W : World) => (show Calls Try.prog 94 #[iv s.a7, iv s.a8, iv s.a9, iv k] W fun e w' => e = .returned (.bool true) ∧ W = w' from by have := rloop_any s.a7 s.a8 s.a9 k W; rwa [hl1] at this)
                cases hl2 : lpB s.a10 s.a11 s.a12 k
                · have KL2 := Lib.hid fun (W : World) => (show Calls Try.prog 94 #[iv s.a10, iv s.a11, iv s.a12, iv k] W fun e w' => e = .returned (.bool false) ∧ W = w' from by have := rloop_any s.a10 s.a11 s.a12 k W; rwa [hl2] at this)
                  obtain rfl : false = r := (show vS s k xs = false from decide_eq_false (fun h => absurd (decide_eq_true h.2.2.2.2.2.2.2) (by rw [show decide _ = lpB s.a10 s.a11 s.a12 k from rfl, hl2]; decide))).symm.trans HR.out
                  clear hl1 hl2
                  go_wp2_with (first
                    | (go_at_call 94; (with_reducible refine (KL1.out _).mono ?_); rintro e w8 ⟨rfl, rfl⟩)
                    | (go_at_call 94; (with_reducible refine (KL2.out _).mono ?_); rintro e w8 ⟨rfl, rfl⟩))
                  go_ret
                  exact ⟨rfl, by first | exact (Below.refl _ _).alloc (Nat.le_refl _) _ | exact bdN ((Below.refl _ _).alloc (Nat.le_refl _) _) _ | exact bdN (bdN ((Below.refl _ _).alloc (Nat.le_refl _) _) _) _⟩
                · have KL2 := Lib.hid fun (W : World) => (show Calls Try.prog 94 #[iv s.a10, iv s.a11, iv s.a12, iv k] W fun e w' => e = .returned (.bool true) ∧ W = w' from by have := rloop_any s.a10 s.a11 s.a12 k W; rwa [hl2] at this)
                  obtain rfl : true = r := (show vS s k xs = true from decide_eq_true ⟨H0.out, H1.out, H2.out, HNm.out, HF.out, HRg.out, of_decide_eq_true hl1, of_decide_eq_true hl2⟩).symm.trans HR.out
                  clear hl1 hl2
                  go_wp2_with (first
                    | (go_at_call 94; (with_reducible refine (KL1.out _).mono ?_); rintro e w8 ⟨rfl, rfl⟩)
                    | (go_at_call 94; (with_reducible refine (KL2.out _).mono ?_); rintro e w8 ⟨rfl, rfl⟩))
                  go_ret
                  exact ⟨rfl, by first | exact (Below.refl _ _).alloc (Nat.le_refl _) _ | exact bdN ((Below.refl _ _).alloc (Nat.le_refl _) _) _ | exact bdN (bdN ((Below.refl _ _).alloc (Nat.le_refl _) _) _) _⟩
      · have d4 : decide (4096 < (n : Int)) = true := decide_eq_true (by omega)
        have d4n : decide (4096 < n) = true := decide_eq_true (by omega)
        by_cases h8 : s.a2 = 8
        · have e8 : (s.a2 != 8) = false := by simp [h8]
          obtain rfl : false = r := (show vS s n xs = false from decide_eq_false (fun h => h2 h.2.2.1)).symm.trans HR.out
          clear h0 h1 h2 h8
          go_enter Try.func33, Try.ntmps33
          go_wp2_with (go_at_call 92; (with_reducible refine (NQ.out _).mono ?_); rintro e w7 ⟨rfl, rfl⟩)
          go_ret
          exact ⟨rfl, by first | exact (Below.refl _ _).alloc (Nat.le_refl _) _ | exact bdN ((Below.refl _ _).alloc (Nat.le_refl _) _) _ | exact bdN (bdN ((Below.refl _ _).alloc (Nat.le_refl _) _) _) _⟩
        · have h16 : s.a2 = 16 := by omega
          have e8 : (s.a2 != 8) = true := by simp [h8]
          have e16 : (s.a2 != 16) = false := by simp [h16]
          obtain rfl : false = r := (show vS s n xs = false from decide_eq_false (fun h => h2 h.2.2.1)).symm.trans HR.out
          clear h0 h1 h2 h8 h16
          go_enter Try.func33, Try.ntmps33
          go_wp2_with (go_at_call 92; (with_reducible refine (NQ.out _).mono ?_); rintro e w7 ⟨rfl, rfl⟩)
          go_ret
          exact ⟨rfl, by first | exact (Below.refl _ _).alloc (Nat.le_refl _) _ | exact bdN ((Below.refl _ _).alloc (Nat.le_refl _) _) _ | exact bdN (bdN ((Below.refl _ _).alloc (Nat.le_refl _) _) _) _⟩
    · have h8 : ¬ s.a2 = 8 := fun h => h1 (.inl h)
      have h16 : ¬ s.a2 = 16 := fun h => h1 (.inr h)
      have e8 : (s.a2 != 8) = true := by simp [h8]
      have e16 : (s.a2 != 16) = true := by simp [h16]
      obtain rfl : false = r := (show vS s n xs = false from decide_eq_false (fun h => h1 h.2.1)).symm.trans HR.out
      clear h0 h1 h8 h16
      go_enter Try.func33, Try.ntmps33
      go_wp2_with (go_at_call 92; (with_reducible refine (NQ.out _).mono ?_); rintro e w7 ⟨rfl, rfl⟩)
      go_ret
      exact ⟨rfl, by first | exact (Below.refl _ _).alloc (Nat.le_refl _) _ | exact bdN ((Below.refl _ _).alloc (Nat.le_refl _) _) _ | exact bdN (bdN ((Below.refl _ _).alloc (Nat.le_refl _) _) _) _⟩
  · have NQ := Lib.hid fun (W : World) => (show Calls Try.prog 92 #[.string s.nm] W fun e w' => e = .returned (.bool false) ∧ W = w' from by have := named_any s.nm W; rwa [decide_eq_false h0] at this)
    obtain rfl : false = r := (show vS s n xs = false from decide_eq_false (fun h => h0 ⟨h.1, h.2.2.2.1⟩)).symm.trans HR.out
    clear h0
    go_enter Try.func33, Try.ntmps33
    go_wp2_with (go_at_call 92; (with_reducible refine (NQ.out _).mono ?_); rintro e w7 ⟨rfl, rfl⟩)
    go_ret
    exact ⟨rfl, by first | exact (Below.refl _ _).alloc (Nat.le_refl _) _ | exact bdN ((Below.refl _ _).alloc (Nat.le_refl _) _) _ | exact bdN (bdN ((Below.refl _ _).alloc (Nat.le_refl _) _) _) _⟩
end Go.Proofs.Ytfodpoccjdaaaaa.SX

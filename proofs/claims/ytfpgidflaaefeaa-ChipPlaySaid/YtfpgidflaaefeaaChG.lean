/- The tone chip: whether its numbers are in range, by the program and by the reference. -/
import Derived.Test.YtfpgidflaaefeaaChB
namespace Go.Proofs.Ytfpgidflaaefeaa.CH
open Go.RowKit Go.Proofs.YtfpgidflaaefeaaW.PrintLast
set_option linter.unusedVariables false
set_option linter.unusedSimpArgs false
set_option maxHeartbeats 8000000 in
set_option maxRecDepth 100000 in
theorem ok_yes (t : T) (ht : t.Ok) (w : World) :
    Calls Try.prog 41 #[.agg t.cs] w fun e w' => e = .returned (.bool true) ∧ Below w.heap.size w w' := by
  obtain ⟨r0, r1, r2, r3, r4, r5, r6, r7, r8, r9, r10, r11, r12, r13, c0, c1, c2, b0, b1, b2, nc, n, ec, es⟩ := t
  obtain ⟨⟨or0, pr0⟩, ⟨or1, pr1⟩, ⟨or2, pr2⟩, ⟨or3, pr3⟩, ⟨or4, pr4⟩, ⟨or5, pr5⟩, ⟨or6, pr6⟩, ⟨or7, pr7⟩, ⟨or8, pr8⟩, ⟨or9, pr9⟩, ⟨or10, pr10⟩, ⟨or11, pr11⟩, ⟨or12, pr12⟩, ⟨or13, pr13⟩, ⟨oc0, pc0⟩, ⟨oc1, pc1⟩, ⟨oc2, pc2⟩, ⟨ob0, pb0⟩, ⟨ob1, pb1⟩, ⟨ob2, pb2⟩, ⟨onc, pnc⟩, ⟨on, pn⟩, ⟨oec, pec⟩, ⟨oes, pes⟩⟩ := ht
  simp only at or0 pr0 or1 pr1 or2 pr2 or3 pr3 or4 pr4 or5 pr5 or6 pr6 or7 pr7 or8 pr8 or9 pr9 or10 pr10 or11 pr11 or12 pr12 or13 pr13 oc0 pc0 oc1 pc1 oc2 pc2 ob0 pb0 ob1 pb1 ob2 pb2 onc pnc on pn oec pec oes pes
  rw [show (T.cs ⟨r0, r1, r2, r3, r4, r5, r6, r7, r8, r9, r10, r11, r12, r13, c0, c1, c2, b0, b1, b2, nc, n, ec, es⟩ : Array Value) = #[iv r0, iv r1, iv r2, iv r3, iv r4, iv r5, iv r6, iv r7, iv r8, iv r9, iv r10, iv r11, iv r12, iv r13, iv c0, iv c1, iv c2, iv b0, iv b1, iv b2, iv nc, iv n, iv ec, iv es] from rfl]
  go_enter Try.func41, Try.ntmps41
  go_wp2
  go_loop [9] (fun v => ∃ k : Nat, k ≤ 14 ∧ v = iv k) (fun v => 14 - (intOf v).toNat)
  case atStart => exact ⟨0, by omega, rfl⟩
  case round =>
    obtain ⟨k, hk, rfl⟩ := hrel
    rcases (by omega : k = 0 ∨ k = 1 ∨ k = 2 ∨ k = 3 ∨ k = 4 ∨ k = 5 ∨ k = 6 ∨ k = 7 ∨ k = 8 ∨ k = 9 ∨ k = 10 ∨ k = 11 ∨ k = 12 ∨ k = 13 ∨ k = 14) with rfl | rfl | rfl | rfl | rfl | rfl | rfl | rfl | rfl | rfl | rfl | rfl | rfl | rfl | rfl
    · skip
      have ix : ∀ w, (Instr.index 32 (.agg #[iv r0, iv r1, iv r2, iv r3, iv r4, iv r5, iv r6, iv r7, iv r8, iv r9, iv r10, iv r11, iv r12, iv r13]) (iv 0)).run Try.prog w = .ok (iv r0) w := fun _ => by kernel_rfl
      go_wp2_with (first | (go_at_call 35; (first | (with_reducible refine (in_yes _ _ _ _ (by omega) (by omega)).mono ?_) | (with_reducible refine (in_no _ _ _ _ (by omega)).mono ?_)); rintro e w3 ⟨rfl, rfl⟩))
      exact ⟨⟨1, by omega, rfl⟩, by simp [intOf]⟩
    · skip
      have ix : ∀ w, (Instr.index 32 (.agg #[iv r0, iv r1, iv r2, iv r3, iv r4, iv r5, iv r6, iv r7, iv r8, iv r9, iv r10, iv r11, iv r12, iv r13]) (iv 1)).run Try.prog w = .ok (iv r1) w := fun _ => by kernel_rfl
      go_wp2_with (first | (go_at_call 35; (first | (with_reducible refine (in_yes _ _ _ _ (by omega) (by omega)).mono ?_) | (with_reducible refine (in_no _ _ _ _ (by omega)).mono ?_)); rintro e w3 ⟨rfl, rfl⟩))
      exact ⟨⟨2, by omega, rfl⟩, by simp [intOf]⟩
    · skip
      have ix : ∀ w, (Instr.index 32 (.agg #[iv r0, iv r1, iv r2, iv r3, iv r4, iv r5, iv r6, iv r7, iv r8, iv r9, iv r10, iv r11, iv r12, iv r13]) (iv 2)).run Try.prog w = .ok (iv r2) w := fun _ => by kernel_rfl
      go_wp2_with (first | (go_at_call 35; (first | (with_reducible refine (in_yes _ _ _ _ (by omega) (by omega)).mono ?_) | (with_reducible refine (in_no _ _ _ _ (by omega)).mono ?_)); rintro e w3 ⟨rfl, rfl⟩))
      exact ⟨⟨3, by omega, rfl⟩, by simp [intOf]⟩
    · skip
      have ix : ∀ w, (Instr.index 32 (.agg #[iv r0, iv r1, iv r2, iv r3, iv r4, iv r5, iv r6, iv r7, iv r8, iv r9, iv r10, iv r11, iv r12, iv r13]) (iv 3)).run Try.prog w = .ok (iv r3) w := fun _ => by kernel_rfl
      go_wp2_with (first | (go_at_call 35; (first | (with_reducible refine (in_yes _ _ _ _ (by omega) (by omega)).mono ?_) | (with_reducible refine (in_no _ _ _ _ (by omega)).mono ?_)); rintro e w3 ⟨rfl, rfl⟩))
      exact ⟨⟨4, by omega, rfl⟩, by simp [intOf]⟩
    · skip
      have ix : ∀ w, (Instr.index 32 (.agg #[iv r0, iv r1, iv r2, iv r3, iv r4, iv r5, iv r6, iv r7, iv r8, iv r9, iv r10, iv r11, iv r12, iv r13]) (iv 4)).run Try.prog w = .ok (iv r4) w := fun _ => by kernel_rfl
      go_wp2_with (first | (go_at_call 35; (first | (with_reducible refine (in_yes _ _ _ _ (by omega) (by omega)).mono ?_) | (with_reducible refine (in_no _ _ _ _ (by omega)).mono ?_)); rintro e w3 ⟨rfl, rfl⟩))
      exact ⟨⟨5, by omega, rfl⟩, by simp [intOf]⟩
    · skip
      have ix : ∀ w, (Instr.index 32 (.agg #[iv r0, iv r1, iv r2, iv r3, iv r4, iv r5, iv r6, iv r7, iv r8, iv r9, iv r10, iv r11, iv r12, iv r13]) (iv 5)).run Try.prog w = .ok (iv r5) w := fun _ => by kernel_rfl
      go_wp2_with (first | (go_at_call 35; (first | (with_reducible refine (in_yes _ _ _ _ (by omega) (by omega)).mono ?_) | (with_reducible refine (in_no _ _ _ _ (by omega)).mono ?_)); rintro e w3 ⟨rfl, rfl⟩))
      exact ⟨⟨6, by omega, rfl⟩, by simp [intOf]⟩
    · skip
      have ix : ∀ w, (Instr.index 32 (.agg #[iv r0, iv r1, iv r2, iv r3, iv r4, iv r5, iv r6, iv r7, iv r8, iv r9, iv r10, iv r11, iv r12, iv r13]) (iv 6)).run Try.prog w = .ok (iv r6) w := fun _ => by kernel_rfl
      go_wp2_with (first | (go_at_call 35; (first | (with_reducible refine (in_yes _ _ _ _ (by omega) (by omega)).mono ?_) | (with_reducible refine (in_no _ _ _ _ (by omega)).mono ?_)); rintro e w3 ⟨rfl, rfl⟩))
      exact ⟨⟨7, by omega, rfl⟩, by simp [intOf]⟩
    · skip
      have ix : ∀ w, (Instr.index 32 (.agg #[iv r0, iv r1, iv r2, iv r3, iv r4, iv r5, iv r6, iv r7, iv r8, iv r9, iv r10, iv r11, iv r12, iv r13]) (iv 7)).run Try.prog w = .ok (iv r7) w := fun _ => by kernel_rfl
      go_wp2_with (first | (go_at_call 35; (first | (with_reducible refine (in_yes _ _ _ _ (by omega) (by omega)).mono ?_) | (with_reducible refine (in_no _ _ _ _ (by omega)).mono ?_)); rintro e w3 ⟨rfl, rfl⟩))
      exact ⟨⟨8, by omega, rfl⟩, by simp [intOf]⟩
    · skip
      have ix : ∀ w, (Instr.index 32 (.agg #[iv r0, iv r1, iv r2, iv r3, iv r4, iv r5, iv r6, iv r7, iv r8, iv r9, iv r10, iv r11, iv r12, iv r13]) (iv 8)).run Try.prog w = .ok (iv r8) w := fun _ => by kernel_rfl
      go_wp2_with (first | (go_at_call 35; (first | (with_reducible refine (in_yes _ _ _ _ (by omega) (by omega)).mono ?_) | (with_reducible refine (in_no _ _ _ _ (by omega)).mono ?_)); rintro e w3 ⟨rfl, rfl⟩))
      exact ⟨⟨9, by omega, rfl⟩, by simp [intOf]⟩
    · skip
      have ix : ∀ w, (Instr.index 32 (.agg #[iv r0, iv r1, iv r2, iv r3, iv r4, iv r5, iv r6, iv r7, iv r8, iv r9, iv r10, iv r11, iv r12, iv r13]) (iv 9)).run Try.prog w = .ok (iv r9) w := fun _ => by kernel_rfl
      go_wp2_with (first | (go_at_call 35; (first | (with_reducible refine (in_yes _ _ _ _ (by omega) (by omega)).mono ?_) | (with_reducible refine (in_no _ _ _ _ (by omega)).mono ?_)); rintro e w3 ⟨rfl, rfl⟩))
      exact ⟨⟨10, by omega, rfl⟩, by simp [intOf]⟩
    · skip
      have ix : ∀ w, (Instr.index 32 (.agg #[iv r0, iv r1, iv r2, iv r3, iv r4, iv r5, iv r6, iv r7, iv r8, iv r9, iv r10, iv r11, iv r12, iv r13]) (iv 10)).run Try.prog w = .ok (iv r10) w := fun _ => by kernel_rfl
      go_wp2_with (first | (go_at_call 35; (first | (with_reducible refine (in_yes _ _ _ _ (by omega) (by omega)).mono ?_) | (with_reducible refine (in_no _ _ _ _ (by omega)).mono ?_)); rintro e w3 ⟨rfl, rfl⟩))
      exact ⟨⟨11, by omega, rfl⟩, by simp [intOf]⟩
    · skip
      have ix : ∀ w, (Instr.index 32 (.agg #[iv r0, iv r1, iv r2, iv r3, iv r4, iv r5, iv r6, iv r7, iv r8, iv r9, iv r10, iv r11, iv r12, iv r13]) (iv 11)).run Try.prog w = .ok (iv r11) w := fun _ => by kernel_rfl
      go_wp2_with (first | (go_at_call 35; (first | (with_reducible refine (in_yes _ _ _ _ (by omega) (by omega)).mono ?_) | (with_reducible refine (in_no _ _ _ _ (by omega)).mono ?_)); rintro e w3 ⟨rfl, rfl⟩))
      exact ⟨⟨12, by omega, rfl⟩, by simp [intOf]⟩
    · skip
      have ix : ∀ w, (Instr.index 32 (.agg #[iv r0, iv r1, iv r2, iv r3, iv r4, iv r5, iv r6, iv r7, iv r8, iv r9, iv r10, iv r11, iv r12, iv r13]) (iv 12)).run Try.prog w = .ok (iv r12) w := fun _ => by kernel_rfl
      go_wp2_with (first | (go_at_call 35; (first | (with_reducible refine (in_yes _ _ _ _ (by omega) (by omega)).mono ?_) | (with_reducible refine (in_no _ _ _ _ (by omega)).mono ?_)); rintro e w3 ⟨rfl, rfl⟩))
      exact ⟨⟨13, by omega, rfl⟩, by simp [intOf]⟩
    · skip
      have ix : ∀ w, (Instr.index 32 (.agg #[iv r0, iv r1, iv r2, iv r3, iv r4, iv r5, iv r6, iv r7, iv r8, iv r9, iv r10, iv r11, iv r12, iv r13]) (iv 13)).run Try.prog w = .ok (iv r13) w := fun _ => by kernel_rfl
      go_wp2_with (first | (go_at_call 35; (first | (with_reducible refine (in_yes _ _ _ _ (by omega) (by omega)).mono ?_) | (with_reducible refine (in_no _ _ _ _ (by omega)).mono ?_)); rintro e w3 ⟨rfl, rfl⟩))
      exact ⟨⟨14, by omega, rfl⟩, by simp [intOf]⟩
    · skip
      go_wp2
      go_loop [16] (fun v => ∃ k : Nat, k ≤ 3 ∧ v = iv k) (fun v => 3 - (intOf v).toNat)
      case atStart => exact ⟨0, by omega, rfl⟩
      case round =>
        obtain ⟨k, hk, rfl⟩ := hrel
        rcases (by omega : k = 0 ∨ k = 1 ∨ k = 2 ∨ k = 3) with rfl | rfl | rfl | rfl
        · skip
          go_wp2_with (first | (go_at_call 35; (first | (with_reducible refine (in_yes _ _ _ _ (by omega) (by omega)).mono ?_) | (with_reducible refine (in_no _ _ _ _ (by omega)).mono ?_)); rintro e w3 ⟨rfl, rfl⟩))
          exact ⟨⟨1, by omega, rfl⟩, by simp [intOf]⟩
        · skip
          go_wp2_with (first | (go_at_call 35; (first | (with_reducible refine (in_yes _ _ _ _ (by omega) (by omega)).mono ?_) | (with_reducible refine (in_no _ _ _ _ (by omega)).mono ?_)); rintro e w3 ⟨rfl, rfl⟩))
          exact ⟨⟨2, by omega, rfl⟩, by simp [intOf]⟩
        · skip
          go_wp2_with (first | (go_at_call 35; (first | (with_reducible refine (in_yes _ _ _ _ (by omega) (by omega)).mono ?_) | (with_reducible refine (in_no _ _ _ _ (by omega)).mono ?_)); rintro e w3 ⟨rfl, rfl⟩))
          exact ⟨⟨3, by omega, rfl⟩, by simp [intOf]⟩
        · skip
          go_wp2_with (first | (go_at_call 35; (first | (with_reducible refine (in_yes _ _ _ _ (by omega) (by omega)).mono ?_) | (with_reducible refine (in_no _ _ _ _ (by omega)).mono ?_)); rintro e w3 ⟨rfl, rfl⟩))
          go_ret
          exact ⟨rfl, (Below.refl _ _).alloc (Nat.le_refl _) _⟩
set_option maxHeartbeats 8000000 in
set_option maxRecDepth 100000 in
theorem ok_no (t : T) (ht : ¬ t.Ok) (w : World) :
    Calls Try.prog 41 #[.agg t.cs] w fun e w' => e = .returned (.bool false) ∧ Below w.heap.size w w' := by
  obtain ⟨r0, r1, r2, r3, r4, r5, r6, r7, r8, r9, r10, r11, r12, r13, c0, c1, c2, b0, b1, b2, nc, n, ec, es⟩ := t
  rw [show (T.cs ⟨r0, r1, r2, r3, r4, r5, r6, r7, r8, r9, r10, r11, r12, r13, c0, c1, c2, b0, b1, b2, nc, n, ec, es⟩ : Array Value) = #[iv r0, iv r1, iv r2, iv r3, iv r4, iv r5, iv r6, iv r7, iv r8, iv r9, iv r10, iv r11, iv r12, iv r13, iv c0, iv c1, iv c2, iv b0, iv b1, iv b2, iv nc, iv n, iv ec, iv es] from rfl]
  go_enter Try.func41, Try.ntmps41
  go_wp2
  go_loop [9] (fun v => ∃ k : Nat, k ≤ 14 ∧ v = iv k ∧ (0 < k → (0 ≤ r0 ∧ r0 ≤ 255)) ∧ (1 < k → (0 ≤ r1 ∧ r1 ≤ 255)) ∧ (2 < k → (0 ≤ r2 ∧ r2 ≤ 255)) ∧ (3 < k → (0 ≤ r3 ∧ r3 ≤ 255)) ∧ (4 < k → (0 ≤ r4 ∧ r4 ≤ 255)) ∧ (5 < k → (0 ≤ r5 ∧ r5 ≤ 255)) ∧ (6 < k → (0 ≤ r6 ∧ r6 ≤ 255)) ∧ (7 < k → (0 ≤ r7 ∧ r7 ≤ 255)) ∧ (8 < k → (0 ≤ r8 ∧ r8 ≤ 255)) ∧ (9 < k → (0 ≤ r9 ∧ r9 ≤ 255)) ∧ (10 < k → (0 ≤ r10 ∧ r10 ≤ 255)) ∧ (11 < k → (0 ≤ r11 ∧ r11 ≤ 255)) ∧ (12 < k → (0 ≤ r12 ∧ r12 ≤ 255)) ∧ (13 < k → (0 ≤ r13 ∧ r13 ≤ 255))) (fun v => 14 - (intOf v).toNat)
  case atStart => exact ⟨0, by omega, rfl, fun h => absurd h (by omega), fun h => absurd h (by omega), fun h => absurd h (by omega), fun h => absurd h (by omega), fun h => absurd h (by omega), fun h => absurd h (by omega), fun h => absurd h (by omega), fun h => absurd h (by omega), fun h => absurd h (by omega), fun h => absurd h (by omega), fun h => absurd h (by omega), fun h => absurd h (by omega), fun h => absurd h (by omega), fun h => absurd h (by omega)⟩
  case round =>
    obtain ⟨k, hk, rfl, H0, H1, H2, H3, H4, H5, H6, H7, H8, H9, H10, H11, H12, H13⟩ := hrel
    rcases (by omega : k = 0 ∨ k = 1 ∨ k = 2 ∨ k = 3 ∨ k = 4 ∨ k = 5 ∨ k = 6 ∨ k = 7 ∨ k = 8 ∨ k = 9 ∨ k = 10 ∨ k = 11 ∨ k = 12 ∨ k = 13 ∨ k = 14) with rfl | rfl | rfl | rfl | rfl | rfl | rfl | rfl | rfl | rfl | rfl | rfl | rfl | rfl | rfl
    · clear H0 H1 H2 H3 H4 H5 H6 H7 H8 H9 H10 H11 H12 H13
      have ix : ∀ w, (Instr.index 32 (.agg #[iv r0, iv r1, iv r2, iv r3, iv r4, iv r5, iv r6, iv r7, iv r8, iv r9, iv r10, iv r11, iv r12, iv r13]) (iv 0)).run Try.prog w = .ok (iv r0) w := fun _ => by kernel_rfl
      rcases (by omega : (0 ≤ r0 ∧ r0 ≤ 255) ∨ (r0 < 0 ∨ 255 < r0)) with ⟨or0, pr0⟩ | hN
      · skip
        go_wp2_with (first | (go_at_call 35; (first | (with_reducible refine (in_yes _ _ _ _ (by omega) (by omega)).mono ?_) | (with_reducible refine (in_no _ _ _ _ (by omega)).mono ?_)); rintro e w3 ⟨rfl, rfl⟩))
        exact ⟨⟨1, by omega, rfl, fun _ => ⟨or0, pr0⟩, fun h => absurd h (by omega), fun h => absurd h (by omega), fun h => absurd h (by omega), fun h => absurd h (by omega), fun h => absurd h (by omega), fun h => absurd h (by omega), fun h => absurd h (by omega), fun h => absurd h (by omega), fun h => absurd h (by omega), fun h => absurd h (by omega), fun h => absurd h (by omega), fun h => absurd h (by omega), fun h => absurd h (by omega)⟩, by simp [intOf]⟩
      · go_wp2_with (first | (go_at_call 35; (first | (with_reducible refine (in_yes _ _ _ _ (by omega) (by omega)).mono ?_) | (with_reducible refine (in_no _ _ _ _ (by omega)).mono ?_)); rintro e w3 ⟨rfl, rfl⟩))
        go_ret
        exact ⟨rfl, (Below.refl _ _).alloc (Nat.le_refl _) _⟩
    · skip
      obtain ⟨or0, pr0⟩ := H0 (by omega)
      clear H0 H1 H2 H3 H4 H5 H6 H7 H8 H9 H10 H11 H12 H13
      have ix : ∀ w, (Instr.index 32 (.agg #[iv r0, iv r1, iv r2, iv r3, iv r4, iv r5, iv r6, iv r7, iv r8, iv r9, iv r10, iv r11, iv r12, iv r13]) (iv 1)).run Try.prog w = .ok (iv r1) w := fun _ => by kernel_rfl
      rcases (by omega : (0 ≤ r1 ∧ r1 ≤ 255) ∨ (r1 < 0 ∨ 255 < r1)) with ⟨or1, pr1⟩ | hN
      · skip
        go_wp2_with (first | (go_at_call 35; (first | (with_reducible refine (in_yes _ _ _ _ (by omega) (by omega)).mono ?_) | (with_reducible refine (in_no _ _ _ _ (by omega)).mono ?_)); rintro e w3 ⟨rfl, rfl⟩))
        exact ⟨⟨2, by omega, rfl, fun _ => ⟨or0, pr0⟩, fun _ => ⟨or1, pr1⟩, fun h => absurd h (by omega), fun h => absurd h (by omega), fun h => absurd h (by omega), fun h => absurd h (by omega), fun h => absurd h (by omega), fun h => absurd h (by omega), fun h => absurd h (by omega), fun h => absurd h (by omega), fun h => absurd h (by omega), fun h => absurd h (by omega), fun h => absurd h (by omega), fun h => absurd h (by omega)⟩, by simp [intOf]⟩
      · go_wp2_with (first | (go_at_call 35; (first | (with_reducible refine (in_yes _ _ _ _ (by omega) (by omega)).mono ?_) | (with_reducible refine (in_no _ _ _ _ (by omega)).mono ?_)); rintro e w3 ⟨rfl, rfl⟩))
        go_ret
        exact ⟨rfl, (Below.refl _ _).alloc (Nat.le_refl _) _⟩
    · skip
      obtain ⟨or0, pr0⟩ := H0 (by omega)
      obtain ⟨or1, pr1⟩ := H1 (by omega)
      clear H0 H1 H2 H3 H4 H5 H6 H7 H8 H9 H10 H11 H12 H13
      have ix : ∀ w, (Instr.index 32 (.agg #[iv r0, iv r1, iv r2, iv r3, iv r4, iv r5, iv r6, iv r7, iv r8, iv r9, iv r10, iv r11, iv r12, iv r13]) (iv 2)).run Try.prog w = .ok (iv r2) w := fun _ => by kernel_rfl
      rcases (by omega : (0 ≤ r2 ∧ r2 ≤ 255) ∨ (r2 < 0 ∨ 255 < r2)) with ⟨or2, pr2⟩ | hN
      · skip
        go_wp2_with (first | (go_at_call 35; (first | (with_reducible refine (in_yes _ _ _ _ (by omega) (by omega)).mono ?_) | (with_reducible refine (in_no _ _ _ _ (by omega)).mono ?_)); rintro e w3 ⟨rfl, rfl⟩))
        exact ⟨⟨3, by omega, rfl, fun _ => ⟨or0, pr0⟩, fun _ => ⟨or1, pr1⟩, fun _ => ⟨or2, pr2⟩, fun h => absurd h (by omega), fun h => absurd h (by omega), fun h => absurd h (by omega), fun h => absurd h (by omega), fun h => absurd h (by omega), fun h => absurd h (by omega), fun h => absurd h (by omega), fun h => absurd h (by omega), fun h => absurd h (by omega), fun h => absurd h (by omega), fun h => absurd h (by omega)⟩, by simp [intOf]⟩
      · go_wp2_with (first | (go_at_call 35; (first | (with_reducible refine (in_yes _ _ _ _ (by omega) (by omega)).mono ?_) | (with_reducible refine (in_no _ _ _ _ (by omega)).mono ?_)); rintro e w3 ⟨rfl, rfl⟩))
        go_ret
        exact ⟨rfl, (Below.refl _ _).alloc (Nat.le_refl _) _⟩
    · skip
      obtain ⟨or0, pr0⟩ := H0 (by omega)
      obtain ⟨or1, pr1⟩ := H1 (by omega)
      obtain ⟨or2, pr2⟩ := H2 (by omega)
      clear H0 H1 H2 H3 H4 H5 H6 H7 H8 H9 H10 H11 H12 H13
      have ix : ∀ w, (Instr.index 32 (.agg #[iv r0, iv r1, iv r2, iv r3, iv r4, iv r5, iv r6, iv r7, iv r8, iv r9, iv r10, iv r11, iv r12, iv r13]) (iv 3)).run Try.prog w = .ok (iv r3) w := fun _ => by kernel_rfl
      rcases (by omega : (0 ≤ r3 ∧ r3 ≤ 255) ∨ (r3 < 0 ∨ 255 < r3)) with ⟨or3, pr3⟩ | hN
      · skip
        go_wp2_with (first | (go_at_call 35; (first | (with_reducible refine (in_yes _ _ _ _ (by omega) (by omega)).mono ?_) | (with_reducible refine (in_no _ _ _ _ (by omega)).mono ?_)); rintro e w3 ⟨rfl, rfl⟩))
        exact ⟨⟨4, by omega, rfl, fun _ => ⟨or0, pr0⟩, fun _ => ⟨or1, pr1⟩, fun _ => ⟨or2, pr2⟩, fun _ => ⟨or3, pr3⟩, fun h => absurd h (by omega), fun h => absurd h (by omega), fun h => absurd h (by omega), fun h => absurd h (by omega), fun h => absurd h (by omega), fun h => absurd h (by omega), fun h => absurd h (by omega), fun h => absurd h (by omega), fun h => absurd h (by omega), fun h => absurd h (by omega)⟩, by simp [intOf]⟩
      · go_wp2_with (first | (go_at_call 35; (first | (with_reducible refine (in_yes _ _ _ _ (by omega) (by omega)).mono ?_) | (with_reducible refine (in_no _ _ _ _ (by omega)).mono ?_)); rintro e w3 ⟨rfl, rfl⟩))
        go_ret
        exact ⟨rfl, (Below.refl _ _).alloc (Nat.le_refl _) _⟩
    · skip
      obtain ⟨or0, pr0⟩ := H0 (by omega)
      obtain ⟨or1, pr1⟩ := H1 (by omega)
      obtain ⟨or2, pr2⟩ := H2 (by omega)
      obtain ⟨or3, pr3⟩ := H3 (by omega)
      clear H0 H1 H2 H3 H4 H5 H6 H7 H8 H9 H10 H11 H12 H13
      have ix : ∀ w, (Instr.index 32 (.agg #[iv r0, iv r1, iv r2, iv r3, iv r4, iv r5, iv r6, iv r7, iv r8, iv r9, iv r10, iv r11, iv r12, iv r13]) (iv 4)).run Try.prog w = .ok (iv r4) w := fun _ => by kernel_rfl
      rcases (by omega : (0 ≤ r4 ∧ r4 ≤ 255) ∨ (r4 < 0 ∨ 255 < r4)) with ⟨or4, pr4⟩ | hN
      · skip
        go_wp2_with (first | (go_at_call 35; (first | (with_reducible refine (in_yes _ _ _ _ (by omega) (by omega)).mono ?_) | (with_reducible refine (in_no _ _ _ _ (by omega)).mono ?_)); rintro e w3 ⟨rfl, rfl⟩))
        exact ⟨⟨5, by omega, rfl, fun _ => ⟨or0, pr0⟩, fun _ => ⟨or1, pr1⟩, fun _ => ⟨or2, pr2⟩, fun _ => ⟨or3, pr3⟩, fun _ => ⟨or4, pr4⟩, fun h => absurd h (by omega), fun h => absurd h (by omega), fun h => absurd h (by omega), fun h => absurd h (by omega), fun h => absurd h (by omega), fun h => absurd h (by omega), fun h => absurd h (by omega), fun h => absurd h (by omega), fun h => absurd h (by omega)⟩, by simp [intOf]⟩
      · go_wp2_with (first | (go_at_call 35; (first | (with_reducible refine (in_yes _ _ _ _ (by omega) (by omega)).mono ?_) | (with_reducible refine (in_no _ _ _ _ (by omega)).mono ?_)); rintro e w3 ⟨rfl, rfl⟩))
        go_ret
        exact ⟨rfl, (Below.refl _ _).alloc (Nat.le_refl _) _⟩
    · skip
      obtain ⟨or0, pr0⟩ := H0 (by omega)
      obtain ⟨or1, pr1⟩ := H1 (by omega)
      obtain ⟨or2, pr2⟩ := H2 (by omega)
      obtain ⟨or3, pr3⟩ := H3 (by omega)
      obtain ⟨or4, pr4⟩ := H4 (by omega)
      clear H0 H1 H2 H3 H4 H5 H6 H7 H8 H9 H10 H11 H12 H13
      have ix : ∀ w, (Instr.index 32 (.agg #[iv r0, iv r1, iv r2, iv r3, iv r4, iv r5, iv r6, iv r7, iv r8, iv r9, iv r10, iv r11, iv r12, iv r13]) (iv 5)).run Try.prog w = .ok (iv r5) w := fun _ => by kernel_rfl
      rcases (by omega : (0 ≤ r5 ∧ r5 ≤ 255) ∨ (r5 < 0 ∨ 255 < r5)) with ⟨or5, pr5⟩ | hN
      · skip
        go_wp2_with (first | (go_at_call 35; (first | (with_reducible refine (in_yes _ _ _ _ (by omega) (by omega)).mono ?_) | (with_reducible refine (in_no _ _ _ _ (by omega)).mono ?_)); rintro e w3 ⟨rfl, rfl⟩))
        exact ⟨⟨6, by omega, rfl, fun _ => ⟨or0, pr0⟩, fun _ => ⟨or1, pr1⟩, fun _ => ⟨or2, pr2⟩, fun _ => ⟨or3, pr3⟩, fun _ => ⟨or4, pr4⟩, fun _ => ⟨or5, pr5⟩, fun h => absurd h (by omega), fun h => absurd h (by omega), fun h => absurd h (by omega), fun h => absurd h (by omega), fun h => absurd h (by omega), fun h => absurd h (by omega), fun h => absurd h (by omega), fun h => absurd h (by omega)⟩, by simp [intOf]⟩
      · go_wp2_with (first | (go_at_call 35; (first | (with_reducible refine (in_yes _ _ _ _ (by omega) (by omega)).mono ?_) | (with_reducible refine (in_no _ _ _ _ (by omega)).mono ?_)); rintro e w3 ⟨rfl, rfl⟩))
        go_ret
        exact ⟨rfl, (Below.refl _ _).alloc (Nat.le_refl _) _⟩
    · skip
      obtain ⟨or0, pr0⟩ := H0 (by omega)
      obtain ⟨or1, pr1⟩ := H1 (by omega)
      obtain ⟨or2, pr2⟩ := H2 (by omega)
      obtain ⟨or3, pr3⟩ := H3 (by omega)
      obtain ⟨or4, pr4⟩ := H4 (by omega)
      obtain ⟨or5, pr5⟩ := H5 (by omega)
      clear H0 H1 H2 H3 H4 H5 H6 H7 H8 H9 H10 H11 H12 H13
      have ix : ∀ w, (Instr.index 32 (.agg #[iv r0, iv r1, iv r2, iv r3, iv r4, iv r5, iv r6, iv r7, iv r8, iv r9, iv r10, iv r11, iv r12, iv r13]) (iv 6)).run Try.prog w = .ok (iv r6) w := fun _ => by kernel_rfl
      rcases (by omega : (0 ≤ r6 ∧ r6 ≤ 255) ∨ (r6 < 0 ∨ 255 < r6)) with ⟨or6, pr6⟩ | hN
      · skip
        go_wp2_with (first | (go_at_call 35; (first | (with_reducible refine (in_yes _ _ _ _ (by omega) (by omega)).mono ?_) | (with_reducible refine (in_no _ _ _ _ (by omega)).mono ?_)); rintro e w3 ⟨rfl, rfl⟩))
        exact ⟨⟨7, by omega, rfl, fun _ => ⟨or0, pr0⟩, fun _ => ⟨or1, pr1⟩, fun _ => ⟨or2, pr2⟩, fun _ => ⟨or3, pr3⟩, fun _ => ⟨or4, pr4⟩, fun _ => ⟨or5, pr5⟩, fun _ => ⟨or6, pr6⟩, fun h => absurd h (by omega), fun h => absurd h (by omega), fun h => absurd h (by omega), fun h => absurd h (by omega), fun h => absurd h (by omega), fun h => absurd h (by omega), fun h => absurd h (by omega)⟩, by simp [intOf]⟩
      · go_wp2_with (first | (go_at_call 35; (first | (with_reducible refine (in_yes _ _ _ _ (by omega) (by omega)).mono ?_) | (with_reducible refine (in_no _ _ _ _ (by omega)).mono ?_)); rintro e w3 ⟨rfl, rfl⟩))
        go_ret
        exact ⟨rfl, (Below.refl _ _).alloc (Nat.le_refl _) _⟩
    · skip
      obtain ⟨or0, pr0⟩ := H0 (by omega)
      obtain ⟨or1, pr1⟩ := H1 (by omega)
      obtain ⟨or2, pr2⟩ := H2 (by omega)
      obtain ⟨or3, pr3⟩ := H3 (by omega)
      obtain ⟨or4, pr4⟩ := H4 (by omega)
      obtain ⟨or5, pr5⟩ := H5 (by omega)
      obtain ⟨or6, pr6⟩ := H6 (by omega)
      clear H0 H1 H2 H3 H4 H5 H6 H7 H8 H9 H10 H11 H12 H13
      have ix : ∀ w, (Instr.index 32 (.agg #[iv r0, iv r1, iv r2, iv r3, iv r4, iv r5, iv r6, iv r7, iv r8, iv r9, iv r10, iv r11, iv r12, iv r13]) (iv 7)).run Try.prog w = .ok (iv r7) w := fun _ => by kernel_rfl
      rcases (by omega : (0 ≤ r7 ∧ r7 ≤ 255) ∨ (r7 < 0 ∨ 255 < r7)) with ⟨or7, pr7⟩ | hN
      · skip
        go_wp2_with (first | (go_at_call 35; (first | (with_reducible refine (in_yes _ _ _ _ (by omega) (by omega)).mono ?_) | (with_reducible refine (in_no _ _ _ _ (by omega)).mono ?_)); rintro e w3 ⟨rfl, rfl⟩))
        exact ⟨⟨8, by omega, rfl, fun _ => ⟨or0, pr0⟩, fun _ => ⟨or1, pr1⟩, fun _ => ⟨or2, pr2⟩, fun _ => ⟨or3, pr3⟩, fun _ => ⟨or4, pr4⟩, fun _ => ⟨or5, pr5⟩, fun _ => ⟨or6, pr6⟩, fun _ => ⟨or7, pr7⟩, fun h => absurd h (by omega), fun h => absurd h (by omega), fun h => absurd h (by omega), fun h => absurd h (by omega), fun h => absurd h (by omega), fun h => absurd h (by omega)⟩, by simp [intOf]⟩
      · go_wp2_with (first | (go_at_call 35; (first | (with_reducible refine (in_yes _ _ _ _ (by omega) (by omega)).mono ?_) | (with_reducible refine (in_no _ _ _ _ (by omega)).mono ?_)); rintro e w3 ⟨rfl, rfl⟩))
        go_ret
        exact ⟨rfl, (Below.refl _ _).alloc (Nat.le_refl _) _⟩
    · skip
      obtain ⟨or0, pr0⟩ := H0 (by omega)
      obtain ⟨or1, pr1⟩ := H1 (by omega)
      obtain ⟨or2, pr2⟩ := H2 (by omega)
      obtain ⟨or3, pr3⟩ := H3 (by omega)
      obtain ⟨or4, pr4⟩ := H4 (by omega)
      obtain ⟨or5, pr5⟩ := H5 (by omega)
      obtain ⟨or6, pr6⟩ := H6 (by omega)
      obtain ⟨or7, pr7⟩ := H7 (by omega)
      clear H0 H1 H2 H3 H4 H5 H6 H7 H8 H9 H10 H11 H12 H13
      have ix : ∀ w, (Instr.index 32 (.agg #[iv r0, iv r1, iv r2, iv r3, iv r4, iv r5, iv r6, iv r7, iv r8, iv r9, iv r10, iv r11, iv r12, iv r13]) (iv 8)).run Try.prog w = .ok (iv r8) w := fun _ => by kernel_rfl
      rcases (by omega : (0 ≤ r8 ∧ r8 ≤ 255) ∨ (r8 < 0 ∨ 255 < r8)) with ⟨or8, pr8⟩ | hN
      · skip
        go_wp2_with (first | (go_at_call 35; (first | (with_reducible refine (in_yes _ _ _ _ (by omega) (by omega)).mono ?_) | (with_reducible refine (in_no _ _ _ _ (by omega)).mono ?_)); rintro e w3 ⟨rfl, rfl⟩))
        exact ⟨⟨9, by omega, rfl, fun _ => ⟨or0, pr0⟩, fun _ => ⟨or1, pr1⟩, fun _ => ⟨or2, pr2⟩, fun _ => ⟨or3, pr3⟩, fun _ => ⟨or4, pr4⟩, fun _ => ⟨or5, pr5⟩, fun _ => ⟨or6, pr6⟩, fun _ => ⟨or7, pr7⟩, fun _ => ⟨or8, pr8⟩, fun h => absurd h (by omega), fun h => absurd h (by omega), fun h => absurd h (by omega), fun h => absurd h (by omega), fun h => absurd h (by omega)⟩, by simp [intOf]⟩
      · go_wp2_with (first | (go_at_call 35; (first | (with_reducible refine (in_yes _ _ _ _ (by omega) (by omega)).mono ?_) | (with_reducible refine (in_no _ _ _ _ (by omega)).mono ?_)); rintro e w3 ⟨rfl, rfl⟩))
        go_ret
        exact ⟨rfl, (Below.refl _ _).alloc (Nat.le_refl _) _⟩
    · skip
      obtain ⟨or0, pr0⟩ := H0 (by omega)
      obtain ⟨or1, pr1⟩ := H1 (by omega)
      obtain ⟨or2, pr2⟩ := H2 (by omega)
      obtain ⟨or3, pr3⟩ := H3 (by omega)
      obtain ⟨or4, pr4⟩ := H4 (by omega)
      obtain ⟨or5, pr5⟩ := H5 (by omega)
      obtain ⟨or6, pr6⟩ := H6 (by omega)
      obtain ⟨or7, pr7⟩ := H7 (by omega)
      obtain ⟨or8, pr8⟩ := H8 (by omega)
      clear H0 H1 H2 H3 H4 H5 H6 H7 H8 H9 H10 H11 H12 H13
      have ix : ∀ w, (Instr.index 32 (.agg #[iv r0, iv r1, iv r2, iv r3, iv r4, iv r5, iv r6, iv r7, iv r8, iv r9, iv r10, iv r11, iv r12, iv r13]) (iv 9)).run Try.prog w = .ok (iv r9) w := fun _ => by kernel_rfl
      rcases (by omega : (0 ≤ r9 ∧ r9 ≤ 255) ∨ (r9 < 0 ∨ 255 < r9)) with ⟨or9, pr9⟩ | hN
      · skip
        go_wp2_with (first | (go_at_call 35; (first | (with_reducible refine (in_yes _ _ _ _ (by omega) (by omega)).mono ?_) | (with_reducible refine (in_no _ _ _ _ (by omega)).mono ?_)); rintro e w3 ⟨rfl, rfl⟩))
        exact ⟨⟨10, by omega, rfl, fun _ => ⟨or0, pr0⟩, fun _ => ⟨or1, pr1⟩, fun _ => ⟨or2, pr2⟩, fun _ => ⟨or3, pr3⟩, fun _ => ⟨or4, pr4⟩, fun _ => ⟨or5, pr5⟩, fun _ => ⟨or6, pr6⟩, fun _ => ⟨or7, pr7⟩, fun _ => ⟨or8, pr8⟩, fun _ => ⟨or9, pr9⟩, fun h => absurd h (by omega), fun h => absurd h (by omega), fun h => absurd h (by omega), fun h => absurd h (by omega)⟩, by simp [intOf]⟩
      · go_wp2_with (first | (go_at_call 35; (first | (with_reducible refine (in_yes _ _ _ _ (by omega) (by omega)).mono ?_) | (with_reducible refine (in_no _ _ _ _ (by omega)).mono ?_)); rintro e w3 ⟨rfl, rfl⟩))
        go_ret
        exact ⟨rfl, (Below.refl _ _).alloc (Nat.le_refl _) _⟩
    · skip
      obtain ⟨or0, pr0⟩ := H0 (by omega)
      obtain ⟨or1, pr1⟩ := H1 (by omega)
      obtain ⟨or2, pr2⟩ := H2 (by omega)
      obtain ⟨or3, pr3⟩ := H3 (by omega)
      obtain ⟨or4, pr4⟩ := H4 (by omega)
      obtain ⟨or5, pr5⟩ := H5 (by omega)
      obtain ⟨or6, pr6⟩ := H6 (by omega)
      obtain ⟨or7, pr7⟩ := H7 (by omega)
      obtain ⟨or8, pr8⟩ := H8 (by omega)
      obtain ⟨or9, pr9⟩ := H9 (by omega)
      clear H0 H1 H2 H3 H4 H5 H6 H7 H8 H9 H10 H11 H12 H13
      have ix : ∀ w, (Instr.index 32 (.agg #[iv r0, iv r1, iv r2, iv r3, iv r4, iv r5, iv r6, iv r7, iv r8, iv r9, iv r10, iv r11, iv r12, iv r13]) (iv 10)).run Try.prog w = .ok (iv r10) w := fun _ => by kernel_rfl
      rcases (by omega : (0 ≤ r10 ∧ r10 ≤ 255) ∨ (r10 < 0 ∨ 255 < r10)) with ⟨or10, pr10⟩ | hN
      · skip
        go_wp2_with (first | (go_at_call 35; (first | (with_reducible refine (in_yes _ _ _ _ (by omega) (by omega)).mono ?_) | (with_reducible refine (in_no _ _ _ _ (by omega)).mono ?_)); rintro e w3 ⟨rfl, rfl⟩))
        exact ⟨⟨11, by omega, rfl, fun _ => ⟨or0, pr0⟩, fun _ => ⟨or1, pr1⟩, fun _ => ⟨or2, pr2⟩, fun _ => ⟨or3, pr3⟩, fun _ => ⟨or4, pr4⟩, fun _ => ⟨or5, pr5⟩, fun _ => ⟨or6, pr6⟩, fun _ => ⟨or7, pr7⟩, fun _ => ⟨or8, pr8⟩, fun _ => ⟨or9, pr9⟩, fun _ => ⟨or10, pr10⟩, fun h => absurd h (by omega), fun h => absurd h (by omega), fun h => absurd h (by omega)⟩, by simp [intOf]⟩
      · go_wp2_with (first | (go_at_call 35; (first | (with_reducible refine (in_yes _ _ _ _ (by omega) (by omega)).mono ?_) | (with_reducible refine (in_no _ _ _ _ (by omega)).mono ?_)); rintro e w3 ⟨rfl, rfl⟩))
        go_ret
        exact ⟨rfl, (Below.refl _ _).alloc (Nat.le_refl _) _⟩
    · skip
      obtain ⟨or0, pr0⟩ := H0 (by omega)
      obtain ⟨or1, pr1⟩ := H1 (by omega)
      obtain ⟨or2, pr2⟩ := H2 (by omega)
      obtain ⟨or3, pr3⟩ := H3 (by omega)
      obtain ⟨or4, pr4⟩ := H4 (by omega)
      obtain ⟨or5, pr5⟩ := H5 (by omega)
      obtain ⟨or6, pr6⟩ := H6 (by omega)
      obtain ⟨or7, pr7⟩ := H7 (by omega)
      obtain ⟨or8, pr8⟩ := H8 (by omega)
      obtain ⟨or9, pr9⟩ := H9 (by omega)
      obtain ⟨or10, pr10⟩ := H10 (by omega)
      clear H0 H1 H2 H3 H4 H5 H6 H7 H8 H9 H10 H11 H12 H13
      have ix : ∀ w, (Instr.index 32 (.agg #[iv r0, iv r1, iv r2, iv r3, iv r4, iv r5, iv r6, iv r7, iv r8, iv r9, iv r10, iv r11, iv r12, iv r13]) (iv 11)).run Try.prog w = .ok (iv r11) w := fun _ => by kernel_rfl
      rcases (by omega : (0 ≤ r11 ∧ r11 ≤ 255) ∨ (r11 < 0 ∨ 255 < r11)) with ⟨or11, pr11⟩ | hN
      · skip
        go_wp2_with (first | (go_at_call 35; (first | (with_reducible refine (in_yes _ _ _ _ (by omega) (by omega)).mono ?_) | (with_reducible refine (in_no _ _ _ _ (by omega)).mono ?_)); rintro e w3 ⟨rfl, rfl⟩))
        exact ⟨⟨12, by omega, rfl, fun _ => ⟨or0, pr0⟩, fun _ => ⟨or1, pr1⟩, fun _ => ⟨or2, pr2⟩, fun _ => ⟨or3, pr3⟩, fun _ => ⟨or4, pr4⟩, fun _ => ⟨or5, pr5⟩, fun _ => ⟨or6, pr6⟩, fun _ => ⟨or7, pr7⟩, fun _ => ⟨or8, pr8⟩, fun _ => ⟨or9, pr9⟩, fun _ => ⟨or10, pr10⟩, fun _ => ⟨or11, pr11⟩, fun h => absurd h (by omega), fun h => absurd h (by omega)⟩, by simp [intOf]⟩
      · go_wp2_with (first | (go_at_call 35; (first | (with_reducible refine (in_yes _ _ _ _ (by omega) (by omega)).mono ?_) | (with_reducible refine (in_no _ _ _ _ (by omega)).mono ?_)); rintro e w3 ⟨rfl, rfl⟩))
        go_ret
        exact ⟨rfl, (Below.refl _ _).alloc (Nat.le_refl _) _⟩
    · skip
      obtain ⟨or0, pr0⟩ := H0 (by omega)
      obtain ⟨or1, pr1⟩ := H1 (by omega)
      obtain ⟨or2, pr2⟩ := H2 (by omega)
      obtain ⟨or3, pr3⟩ := H3 (by omega)
      obtain ⟨or4, pr4⟩ := H4 (by omega)
      obtain ⟨or5, pr5⟩ := H5 (by omega)
      obtain ⟨or6, pr6⟩ := H6 (by omega)
      obtain ⟨or7, pr7⟩ := H7 (by omega)
      obtain ⟨or8, pr8⟩ := H8 (by omega)
      obtain ⟨or9, pr9⟩ := H9 (by omega)
      obtain ⟨or10, pr10⟩ := H10 (by omega)
      obtain ⟨or11, pr11⟩ := H11 (by omega)
      clear H0 H1 H2 H3 H4 H5 H6 H7 H8 H9 H10 H11 H12 H13
      have ix : ∀ w, (Instr.index 32 (.agg #[iv r0, iv r1, iv r2, iv r3, iv r4, iv r5, iv r6, iv r7, iv r8, iv r9, iv r10, iv r11, iv r12, iv r13]) (iv 12)).run Try.prog w = .ok (iv r12) w := fun _ => by kernel_rfl
      rcases (by omega : (0 ≤ r12 ∧ r12 ≤ 255) ∨ (r12 < 0 ∨ 255 < r12)) with ⟨or12, pr12⟩ | hN
      · skip
        go_wp2_with (first | (go_at_call 35; (first | (with_reducible refine (in_yes _ _ _ _ (by omega) (by omega)).mono ?_) | (with_reducible refine (in_no _ _ _ _ (by omega)).mono ?_)); rintro e w3 ⟨rfl, rfl⟩))
        exact ⟨⟨13, by omega, rfl, fun _ => ⟨or0, pr0⟩, fun _ => ⟨or1, pr1⟩, fun _ => ⟨or2, pr2⟩, fun _ => ⟨or3, pr3⟩, fun _ => ⟨or4, pr4⟩, fun _ => ⟨or5, pr5⟩, fun _ => ⟨or6, pr6⟩, fun _ => ⟨or7, pr7⟩, fun _ => ⟨or8, pr8⟩, fun _ => ⟨or9, pr9⟩, fun _ => ⟨or10, pr10⟩, fun _ => ⟨or11, pr11⟩, fun _ => ⟨or12, pr12⟩, fun h => absurd h (by omega)⟩, by simp [intOf]⟩
      · go_wp2_with (first | (go_at_call 35; (first | (with_reducible refine (in_yes _ _ _ _ (by omega) (by omega)).mono ?_) | (with_reducible refine (in_no _ _ _ _ (by omega)).mono ?_)); rintro e w3 ⟨rfl, rfl⟩))
        go_ret
        exact ⟨rfl, (Below.refl _ _).alloc (Nat.le_refl _) _⟩
    · skip
      obtain ⟨or0, pr0⟩ := H0 (by omega)
      obtain ⟨or1, pr1⟩ := H1 (by omega)
      obtain ⟨or2, pr2⟩ := H2 (by omega)
      obtain ⟨or3, pr3⟩ := H3 (by omega)
      obtain ⟨or4, pr4⟩ := H4 (by omega)
      obtain ⟨or5, pr5⟩ := H5 (by omega)
      obtain ⟨or6, pr6⟩ := H6 (by omega)
      obtain ⟨or7, pr7⟩ := H7 (by omega)
      obtain ⟨or8, pr8⟩ := H8 (by omega)
      obtain ⟨or9, pr9⟩ := H9 (by omega)
      obtain ⟨or10, pr10⟩ := H10 (by omega)
      obtain ⟨or11, pr11⟩ := H11 (by omega)
      obtain ⟨or12, pr12⟩ := H12 (by omega)
      clear H0 H1 H2 H3 H4 H5 H6 H7 H8 H9 H10 H11 H12 H13
      have ix : ∀ w, (Instr.index 32 (.agg #[iv r0, iv r1, iv r2, iv r3, iv r4, iv r5, iv r6, iv r7, iv r8, iv r9, iv r10, iv r11, iv r12, iv r13]) (iv 13)).run Try.prog w = .ok (iv r13) w := fun _ => by kernel_rfl
      rcases (by omega : (0 ≤ r13 ∧ r13 ≤ 255) ∨ (r13 < 0 ∨ 255 < r13)) with ⟨or13, pr13⟩ | hN
      · skip
        go_wp2_with (first | (go_at_call 35; (first | (with_reducible refine (in_yes _ _ _ _ (by omega) (by omega)).mono ?_) | (with_reducible refine (in_no _ _ _ _ (by omega)).mono ?_)); rintro e w3 ⟨rfl, rfl⟩))
        exact ⟨⟨14, by omega, rfl, fun _ => ⟨or0, pr0⟩, fun _ => ⟨or1, pr1⟩, fun _ => ⟨or2, pr2⟩, fun _ => ⟨or3, pr3⟩, fun _ => ⟨or4, pr4⟩, fun _ => ⟨or5, pr5⟩, fun _ => ⟨or6, pr6⟩, fun _ => ⟨or7, pr7⟩, fun _ => ⟨or8, pr8⟩, fun _ => ⟨or9, pr9⟩, fun _ => ⟨or10, pr10⟩, fun _ => ⟨or11, pr11⟩, fun _ => ⟨or12, pr12⟩, fun _ => ⟨or13, pr13⟩⟩, by simp [intOf]⟩
      · go_wp2_with (first | (go_at_call 35; (first | (with_reducible refine (in_yes _ _ _ _ (by omega) (by omega)).mono ?_) | (with_reducible refine (in_no _ _ _ _ (by omega)).mono ?_)); rintro e w3 ⟨rfl, rfl⟩))
        go_ret
        exact ⟨rfl, (Below.refl _ _).alloc (Nat.le_refl _) _⟩
    · skip
      obtain ⟨or0, pr0⟩ := H0 (by omega)
      obtain ⟨or1, pr1⟩ := H1 (by omega)
      obtain ⟨or2, pr2⟩ := H2 (by omega)
      obtain ⟨or3, pr3⟩ := H3 (by omega)
      obtain ⟨or4, pr4⟩ := H4 (by omega)
      obtain ⟨or5, pr5⟩ := H5 (by omega)
      obtain ⟨or6, pr6⟩ := H6 (by omega)
      obtain ⟨or7, pr7⟩ := H7 (by omega)
      obtain ⟨or8, pr8⟩ := H8 (by omega)
      obtain ⟨or9, pr9⟩ := H9 (by omega)
      obtain ⟨or10, pr10⟩ := H10 (by omega)
      obtain ⟨or11, pr11⟩ := H11 (by omega)
      obtain ⟨or12, pr12⟩ := H12 (by omega)
      obtain ⟨or13, pr13⟩ := H13 (by omega)
      clear H0 H1 H2 H3 H4 H5 H6 H7 H8 H9 H10 H11 H12 H13
      go_wp2
      go_loop [16] (fun v => ∃ k : Nat, k ≤ 3 ∧ v = iv k ∧ (0 < k → (0 ≤ c0 ∧ c0 ≤ 65535) ∧ (0 ≤ b0 ∧ b0 ≤ 1)) ∧ (1 < k → (0 ≤ c1 ∧ c1 ≤ 65535) ∧ (0 ≤ b1 ∧ b1 ≤ 1)) ∧ (2 < k → (0 ≤ c2 ∧ c2 ≤ 65535) ∧ (0 ≤ b2 ∧ b2 ≤ 1))) (fun v => 3 - (intOf v).toNat)
      case atStart => exact ⟨0, by omega, rfl, fun h => absurd h (by omega), fun h => absurd h (by omega), fun h => absurd h (by omega)⟩
      case round =>
        obtain ⟨k, hk, rfl, H0, H1, H2⟩ := hrel
        rcases (by omega : k = 0 ∨ k = 1 ∨ k = 2 ∨ k = 3) with rfl | rfl | rfl | rfl
        · clear H0 H1 H2
          rcases (by omega : (0 ≤ c0 ∧ c0 ≤ 65535) ∨ (c0 < 0 ∨ 65535 < c0)) with ⟨oc0, pc0⟩ | hN
          · skip
            rcases (by omega : (0 ≤ b0 ∧ b0 ≤ 1) ∨ (b0 < 0 ∨ 1 < b0)) with ⟨ob0, pb0⟩ | hN
            · skip
              go_wp2_with (first | (go_at_call 35; (first | (with_reducible refine (in_yes _ _ _ _ (by omega) (by omega)).mono ?_) | (with_reducible refine (in_no _ _ _ _ (by omega)).mono ?_)); rintro e w3 ⟨rfl, rfl⟩))
              exact ⟨⟨1, by omega, rfl, fun _ => ⟨⟨oc0, pc0⟩, ⟨ob0, pb0⟩⟩, fun h => absurd h (by omega), fun h => absurd h (by omega)⟩, by simp [intOf]⟩
            · go_wp2_with (first | (go_at_call 35; (first | (with_reducible refine (in_yes _ _ _ _ (by omega) (by omega)).mono ?_) | (with_reducible refine (in_no _ _ _ _ (by omega)).mono ?_)); rintro e w3 ⟨rfl, rfl⟩))
              go_ret
              exact ⟨rfl, (Below.refl _ _).alloc (Nat.le_refl _) _⟩
          · go_wp2_with (first | (go_at_call 35; (first | (with_reducible refine (in_yes _ _ _ _ (by omega) (by omega)).mono ?_) | (with_reducible refine (in_no _ _ _ _ (by omega)).mono ?_)); rintro e w3 ⟨rfl, rfl⟩))
            go_ret
            exact ⟨rfl, (Below.refl _ _).alloc (Nat.le_refl _) _⟩
        · skip
          obtain ⟨⟨oc0, pc0⟩, ⟨ob0, pb0⟩⟩ := H0 (by omega)
          clear H0 H1 H2
          rcases (by omega : (0 ≤ c1 ∧ c1 ≤ 65535) ∨ (c1 < 0 ∨ 65535 < c1)) with ⟨oc1, pc1⟩ | hN
          · skip
            rcases (by omega : (0 ≤ b1 ∧ b1 ≤ 1) ∨ (b1 < 0 ∨ 1 < b1)) with ⟨ob1, pb1⟩ | hN
            · skip
              go_wp2_with (first | (go_at_call 35; (first | (with_reducible refine (in_yes _ _ _ _ (by omega) (by omega)).mono ?_) | (with_reducible refine (in_no _ _ _ _ (by omega)).mono ?_)); rintro e w3 ⟨rfl, rfl⟩))
              exact ⟨⟨2, by omega, rfl, fun _ => ⟨⟨oc0, pc0⟩, ⟨ob0, pb0⟩⟩, fun _ => ⟨⟨oc1, pc1⟩, ⟨ob1, pb1⟩⟩, fun h => absurd h (by omega)⟩, by simp [intOf]⟩
            · go_wp2_with (first | (go_at_call 35; (first | (with_reducible refine (in_yes _ _ _ _ (by omega) (by omega)).mono ?_) | (with_reducible refine (in_no _ _ _ _ (by omega)).mono ?_)); rintro e w3 ⟨rfl, rfl⟩))
              go_ret
              exact ⟨rfl, (Below.refl _ _).alloc (Nat.le_refl _) _⟩
          · go_wp2_with (first | (go_at_call 35; (first | (with_reducible refine (in_yes _ _ _ _ (by omega) (by omega)).mono ?_) | (with_reducible refine (in_no _ _ _ _ (by omega)).mono ?_)); rintro e w3 ⟨rfl, rfl⟩))
            go_ret
            exact ⟨rfl, (Below.refl _ _).alloc (Nat.le_refl _) _⟩
        · skip
          obtain ⟨⟨oc0, pc0⟩, ⟨ob0, pb0⟩⟩ := H0 (by omega)
          obtain ⟨⟨oc1, pc1⟩, ⟨ob1, pb1⟩⟩ := H1 (by omega)
          clear H0 H1 H2
          rcases (by omega : (0 ≤ c2 ∧ c2 ≤ 65535) ∨ (c2 < 0 ∨ 65535 < c2)) with ⟨oc2, pc2⟩ | hN
          · skip
            rcases (by omega : (0 ≤ b2 ∧ b2 ≤ 1) ∨ (b2 < 0 ∨ 1 < b2)) with ⟨ob2, pb2⟩ | hN
            · skip
              go_wp2_with (first | (go_at_call 35; (first | (with_reducible refine (in_yes _ _ _ _ (by omega) (by omega)).mono ?_) | (with_reducible refine (in_no _ _ _ _ (by omega)).mono ?_)); rintro e w3 ⟨rfl, rfl⟩))
              exact ⟨⟨3, by omega, rfl, fun _ => ⟨⟨oc0, pc0⟩, ⟨ob0, pb0⟩⟩, fun _ => ⟨⟨oc1, pc1⟩, ⟨ob1, pb1⟩⟩, fun _ => ⟨⟨oc2, pc2⟩, ⟨ob2, pb2⟩⟩⟩, by simp [intOf]⟩
            · go_wp2_with (first | (go_at_call 35; (first | (with_reducible refine (in_yes _ _ _ _ (by omega) (by omega)).mono ?_) | (with_reducible refine (in_no _ _ _ _ (by omega)).mono ?_)); rintro e w3 ⟨rfl, rfl⟩))
              go_ret
              exact ⟨rfl, (Below.refl _ _).alloc (Nat.le_refl _) _⟩
          · go_wp2_with (first | (go_at_call 35; (first | (with_reducible refine (in_yes _ _ _ _ (by omega) (by omega)).mono ?_) | (with_reducible refine (in_no _ _ _ _ (by omega)).mono ?_)); rintro e w3 ⟨rfl, rfl⟩))
            go_ret
            exact ⟨rfl, (Below.refl _ _).alloc (Nat.le_refl _) _⟩
        · skip
          obtain ⟨⟨oc0, pc0⟩, ⟨ob0, pb0⟩⟩ := H0 (by omega)
          obtain ⟨⟨oc1, pc1⟩, ⟨ob1, pb1⟩⟩ := H1 (by omega)
          obtain ⟨⟨oc2, pc2⟩, ⟨ob2, pb2⟩⟩ := H2 (by omega)
          clear H0 H1 H2
          rcases (by omega : (0 ≤ nc ∧ nc ≤ 65535) ∨ (nc < 0 ∨ 65535 < nc)) with ⟨onc, pnc⟩ | hN
          · skip
            rcases (by omega : (1 ≤ n ∧ n ≤ 131071) ∨ (n < 1 ∨ 131071 < n)) with ⟨on, pn⟩ | hN
            · skip
              rcases (by omega : (0 ≤ ec ∧ ec ≤ 65535) ∨ (ec < 0 ∨ 65535 < ec)) with ⟨oec, pec⟩ | hN
              · skip
                rcases (by omega : (0 ≤ es ∧ es ≤ 63) ∨ (es < 0 ∨ 63 < es)) with ⟨oes, pes⟩ | hN
                · skip
                  exact absurd (⟨⟨or0, pr0⟩, ⟨or1, pr1⟩, ⟨or2, pr2⟩, ⟨or3, pr3⟩, ⟨or4, pr4⟩, ⟨or5, pr5⟩, ⟨or6, pr6⟩, ⟨or7, pr7⟩, ⟨or8, pr8⟩, ⟨or9, pr9⟩, ⟨or10, pr10⟩, ⟨or11, pr11⟩, ⟨or12, pr12⟩, ⟨or13, pr13⟩, ⟨oc0, pc0⟩, ⟨oc1, pc1⟩, ⟨oc2, pc2⟩, ⟨ob0, pb0⟩, ⟨ob1, pb1⟩, ⟨ob2, pb2⟩, ⟨onc, pnc⟩, ⟨on, pn⟩, ⟨oec, pec⟩, ⟨oes, pes⟩⟩ : T.Ok ⟨r0, r1, r2, r3, r4, r5, r6, r7, r8, r9, r10, r11, r12, r13, c0, c1, c2, b0, b1, b2, nc, n, ec, es⟩) ht
                · go_wp2_with (first | (go_at_call 35; (first | (with_reducible refine (in_yes _ _ _ _ (by omega) (by omega)).mono ?_) | (with_reducible refine (in_no _ _ _ _ (by omega)).mono ?_)); rintro e w3 ⟨rfl, rfl⟩))
                  go_ret
                  exact ⟨rfl, (Below.refl _ _).alloc (Nat.le_refl _) _⟩
              · go_wp2_with (first | (go_at_call 35; (first | (with_reducible refine (in_yes _ _ _ _ (by omega) (by omega)).mono ?_) | (with_reducible refine (in_no _ _ _ _ (by omega)).mono ?_)); rintro e w3 ⟨rfl, rfl⟩))
                go_ret
                exact ⟨rfl, (Below.refl _ _).alloc (Nat.le_refl _) _⟩
            · go_wp2_with (first | (go_at_call 35; (first | (with_reducible refine (in_yes _ _ _ _ (by omega) (by omega)).mono ?_) | (with_reducible refine (in_no _ _ _ _ (by omega)).mono ?_)); rintro e w3 ⟨rfl, rfl⟩))
              go_ret
              exact ⟨rfl, (Below.refl _ _).alloc (Nat.le_refl _) _⟩
          · go_wp2_with (first | (go_at_call 35; (first | (with_reducible refine (in_yes _ _ _ _ (by omega) (by omega)).mono ?_) | (with_reducible refine (in_no _ _ _ _ (by omega)).mono ?_)); rintro e w3 ⟨rfl, rfl⟩))
            go_ret
            exact ⟨rfl, (Below.refl _ _).alloc (Nat.le_refl _) _⟩
set_option maxHeartbeats 8000000 in
set_option maxRecDepth 100000 in
theorem right_yes (t : T) (ht : t.Ok) (w : World) :
    Calls Try.prog 19 #[.agg t.cs] w fun e w' => e = .returned (.bool true) ∧ Below w.heap.size w w' := by
  obtain ⟨r0, r1, r2, r3, r4, r5, r6, r7, r8, r9, r10, r11, r12, r13, c0, c1, c2, b0, b1, b2, nc, n, ec, es⟩ := t
  obtain ⟨⟨or0, pr0⟩, ⟨or1, pr1⟩, ⟨or2, pr2⟩, ⟨or3, pr3⟩, ⟨or4, pr4⟩, ⟨or5, pr5⟩, ⟨or6, pr6⟩, ⟨or7, pr7⟩, ⟨or8, pr8⟩, ⟨or9, pr9⟩, ⟨or10, pr10⟩, ⟨or11, pr11⟩, ⟨or12, pr12⟩, ⟨or13, pr13⟩, ⟨oc0, pc0⟩, ⟨oc1, pc1⟩, ⟨oc2, pc2⟩, ⟨ob0, pb0⟩, ⟨ob1, pb1⟩, ⟨ob2, pb2⟩, ⟨onc, pnc⟩, ⟨on, pn⟩, ⟨oec, pec⟩, ⟨oes, pes⟩⟩ := ht
  simp only at or0 pr0 or1 pr1 or2 pr2 or3 pr3 or4 pr4 or5 pr5 or6 pr6 or7 pr7 or8 pr8 or9 pr9 or10 pr10 or11 pr11 or12 pr12 or13 pr13 oc0 pc0 oc1 pc1 oc2 pc2 ob0 pb0 ob1 pb1 ob2 pb2 onc pnc on pn oec pec oes pes
  rw [show (T.cs ⟨r0, r1, r2, r3, r4, r5, r6, r7, r8, r9, r10, r11, r12, r13, c0, c1, c2, b0, b1, b2, nc, n, ec, es⟩ : Array Value) = #[iv r0, iv r1, iv r2, iv r3, iv r4, iv r5, iv r6, iv r7, iv r8, iv r9, iv r10, iv r11, iv r12, iv r13, iv c0, iv c1, iv c2, iv b0, iv b1, iv b2, iv nc, iv n, iv ec, iv es] from rfl]
  go_enter Try.func19, Try.ntmps19
  go_wp2
  go_loop [8] (fun v => ∃ k : Nat, k ≤ 14 ∧ v = iv k) (fun v => 14 - (intOf v).toNat)
  case atStart => exact ⟨0, by omega, rfl⟩
  case round =>
    obtain ⟨k, hk, rfl⟩ := hrel
    rcases (by omega : k = 0 ∨ k = 1 ∨ k = 2 ∨ k = 3 ∨ k = 4 ∨ k = 5 ∨ k = 6 ∨ k = 7 ∨ k = 8 ∨ k = 9 ∨ k = 10 ∨ k = 11 ∨ k = 12 ∨ k = 13 ∨ k = 14) with rfl | rfl | rfl | rfl | rfl | rfl | rfl | rfl | rfl | rfl | rfl | rfl | rfl | rfl | rfl
    · skip
      have ix : ∀ w, (Instr.index 32 (.agg #[iv r0, iv r1, iv r2, iv r3, iv r4, iv r5, iv r6, iv r7, iv r8, iv r9, iv r10, iv r11, iv r12, iv r13]) (iv 0)).run Try.prog w = .ok (iv r0) w := fun _ => by kernel_rfl
      go_wp2_with (first | (go_at_call 38; (first | (with_reducible refine (rin_yes _ _ _ _ (by omega) (by omega)).mono ?_) | (with_reducible refine (rin_no _ _ _ _ (by omega)).mono ?_)); rintro e w3 ⟨rfl, rfl⟩))
      exact ⟨⟨1, by omega, rfl⟩, by simp [intOf]⟩
    · skip
      have ix : ∀ w, (Instr.index 32 (.agg #[iv r0, iv r1, iv r2, iv r3, iv r4, iv r5, iv r6, iv r7, iv r8, iv r9, iv r10, iv r11, iv r12, iv r13]) (iv 1)).run Try.prog w = .ok (iv r1) w := fun _ => by kernel_rfl
      go_wp2_with (first | (go_at_call 38; (first | (with_reducible refine (rin_yes _ _ _ _ (by omega) (by omega)).mono ?_) | (with_reducible refine (rin_no _ _ _ _ (by omega)).mono ?_)); rintro e w3 ⟨rfl, rfl⟩))
      exact ⟨⟨2, by omega, rfl⟩, by simp [intOf]⟩
    · skip
      have ix : ∀ w, (Instr.index 32 (.agg #[iv r0, iv r1, iv r2, iv r3, iv r4, iv r5, iv r6, iv r7, iv r8, iv r9, iv r10, iv r11, iv r12, iv r13]) (iv 2)).run Try.prog w = .ok (iv r2) w := fun _ => by kernel_rfl
      go_wp2_with (first | (go_at_call 38; (first | (with_reducible refine (rin_yes _ _ _ _ (by omega) (by omega)).mono ?_) | (with_reducible refine (rin_no _ _ _ _ (by omega)).mono ?_)); rintro e w3 ⟨rfl, rfl⟩))
      exact ⟨⟨3, by omega, rfl⟩, by simp [intOf]⟩
    · skip
      have ix : ∀ w, (Instr.index 32 (.agg #[iv r0, iv r1, iv r2, iv r3, iv r4, iv r5, iv r6, iv r7, iv r8, iv r9, iv r10, iv r11, iv r12, iv r13]) (iv 3)).run Try.prog w = .ok (iv r3) w := fun _ => by kernel_rfl
      go_wp2_with (first | (go_at_call 38; (first | (with_reducible refine (rin_yes _ _ _ _ (by omega) (by omega)).mono ?_) | (with_reducible refine (rin_no _ _ _ _ (by omega)).mono ?_)); rintro e w3 ⟨rfl, rfl⟩))
      exact ⟨⟨4, by omega, rfl⟩, by simp [intOf]⟩
    · skip
      have ix : ∀ w, (Instr.index 32 (.agg #[iv r0, iv r1, iv r2, iv r3, iv r4, iv r5, iv r6, iv r7, iv r8, iv r9, iv r10, iv r11, iv r12, iv r13]) (iv 4)).run Try.prog w = .ok (iv r4) w := fun _ => by kernel_rfl
      go_wp2_with (first | (go_at_call 38; (first | (with_reducible refine (rin_yes _ _ _ _ (by omega) (by omega)).mono ?_) | (with_reducible refine (rin_no _ _ _ _ (by omega)).mono ?_)); rintro e w3 ⟨rfl, rfl⟩))
      exact ⟨⟨5, by omega, rfl⟩, by simp [intOf]⟩
    · skip
      have ix : ∀ w, (Instr.index 32 (.agg #[iv r0, iv r1, iv r2, iv r3, iv r4, iv r5, iv r6, iv r7, iv r8, iv r9, iv r10, iv r11, iv r12, iv r13]) (iv 5)).run Try.prog w = .ok (iv r5) w := fun _ => by kernel_rfl
      go_wp2_with (first | (go_at_call 38; (first | (with_reducible refine (rin_yes _ _ _ _ (by omega) (by omega)).mono ?_) | (with_reducible refine (rin_no _ _ _ _ (by omega)).mono ?_)); rintro e w3 ⟨rfl, rfl⟩))
      exact ⟨⟨6, by omega, rfl⟩, by simp [intOf]⟩
    · skip
      have ix : ∀ w, (Instr.index 32 (.agg #[iv r0, iv r1, iv r2, iv r3, iv r4, iv r5, iv r6, iv r7, iv r8, iv r9, iv r10, iv r11, iv r12, iv r13]) (iv 6)).run Try.prog w = .ok (iv r6) w := fun _ => by kernel_rfl
      go_wp2_with (first | (go_at_call 38; (first | (with_reducible refine (rin_yes _ _ _ _ (by omega) (by omega)).mono ?_) | (with_reducible refine (rin_no _ _ _ _ (by omega)).mono ?_)); rintro e w3 ⟨rfl, rfl⟩))
      exact ⟨⟨7, by omega, rfl⟩, by simp [intOf]⟩
    · skip
      have ix : ∀ w, (Instr.index 32 (.agg #[iv r0, iv r1, iv r2, iv r3, iv r4, iv r5, iv r6, iv r7, iv r8, iv r9, iv r10, iv r11, iv r12, iv r13]) (iv 7)).run Try.prog w = .ok (iv r7) w := fun _ => by kernel_rfl
      go_wp2_with (first | (go_at_call 38; (first | (with_reducible refine (rin_yes _ _ _ _ (by omega) (by omega)).mono ?_) | (with_reducible refine (rin_no _ _ _ _ (by omega)).mono ?_)); rintro e w3 ⟨rfl, rfl⟩))
      exact ⟨⟨8, by omega, rfl⟩, by simp [intOf]⟩
    · skip
      have ix : ∀ w, (Instr.index 32 (.agg #[iv r0, iv r1, iv r2, iv r3, iv r4, iv r5, iv r6, iv r7, iv r8, iv r9, iv r10, iv r11, iv r12, iv r13]) (iv 8)).run Try.prog w = .ok (iv r8) w := fun _ => by kernel_rfl
      go_wp2_with (first | (go_at_call 38; (first | (with_reducible refine (rin_yes _ _ _ _ (by omega) (by omega)).mono ?_) | (with_reducible refine (rin_no _ _ _ _ (by omega)).mono ?_)); rintro e w3 ⟨rfl, rfl⟩))
      exact ⟨⟨9, by omega, rfl⟩, by simp [intOf]⟩
    · skip
      have ix : ∀ w, (Instr.index 32 (.agg #[iv r0, iv r1, iv r2, iv r3, iv r4, iv r5, iv r6, iv r7, iv r8, iv r9, iv r10, iv r11, iv r12, iv r13]) (iv 9)).run Try.prog w = .ok (iv r9) w := fun _ => by kernel_rfl
      go_wp2_with (first | (go_at_call 38; (first | (with_reducible refine (rin_yes _ _ _ _ (by omega) (by omega)).mono ?_) | (with_reducible refine (rin_no _ _ _ _ (by omega)).mono ?_)); rintro e w3 ⟨rfl, rfl⟩))
      exact ⟨⟨10, by omega, rfl⟩, by simp [intOf]⟩
    · skip
      have ix : ∀ w, (Instr.index 32 (.agg #[iv r0, iv r1, iv r2, iv r3, iv r4, iv r5, iv r6, iv r7, iv r8, iv r9, iv r10, iv r11, iv r12, iv r13]) (iv 10)).run Try.prog w = .ok (iv r10) w := fun _ => by kernel_rfl
      go_wp2_with (first | (go_at_call 38; (first | (with_reducible refine (rin_yes _ _ _ _ (by omega) (by omega)).mono ?_) | (with_reducible refine (rin_no _ _ _ _ (by omega)).mono ?_)); rintro e w3 ⟨rfl, rfl⟩))
      exact ⟨⟨11, by omega, rfl⟩, by simp [intOf]⟩
    · skip
      have ix : ∀ w, (Instr.index 32 (.agg #[iv r0, iv r1, iv r2, iv r3, iv r4, iv r5, iv r6, iv r7, iv r8, iv r9, iv r10, iv r11, iv r12, iv r13]) (iv 11)).run Try.prog w = .ok (iv r11) w := fun _ => by kernel_rfl
      go_wp2_with (first | (go_at_call 38; (first | (with_reducible refine (rin_yes _ _ _ _ (by omega) (by omega)).mono ?_) | (with_reducible refine (rin_no _ _ _ _ (by omega)).mono ?_)); rintro e w3 ⟨rfl, rfl⟩))
      exact ⟨⟨12, by omega, rfl⟩, by simp [intOf]⟩
    · skip
      have ix : ∀ w, (Instr.index 32 (.agg #[iv r0, iv r1, iv r2, iv r3, iv r4, iv r5, iv r6, iv r7, iv r8, iv r9, iv r10, iv r11, iv r12, iv r13]) (iv 12)).run Try.prog w = .ok (iv r12) w := fun _ => by kernel_rfl
      go_wp2_with (first | (go_at_call 38; (first | (with_reducible refine (rin_yes _ _ _ _ (by omega) (by omega)).mono ?_) | (with_reducible refine (rin_no _ _ _ _ (by omega)).mono ?_)); rintro e w3 ⟨rfl, rfl⟩))
      exact ⟨⟨13, by omega, rfl⟩, by simp [intOf]⟩
    · skip
      have ix : ∀ w, (Instr.index 32 (.agg #[iv r0, iv r1, iv r2, iv r3, iv r4, iv r5, iv r6, iv r7, iv r8, iv r9, iv r10, iv r11, iv r12, iv r13]) (iv 13)).run Try.prog w = .ok (iv r13) w := fun _ => by kernel_rfl
      go_wp2_with (first | (go_at_call 38; (first | (with_reducible refine (rin_yes _ _ _ _ (by omega) (by omega)).mono ?_) | (with_reducible refine (rin_no _ _ _ _ (by omega)).mono ?_)); rintro e w3 ⟨rfl, rfl⟩))
      exact ⟨⟨14, by omega, rfl⟩, by simp [intOf]⟩
    · skip
      go_wp2
      go_loop [5] (fun v => ∃ k : Nat, k ≤ 3 ∧ v = iv k) (fun v => 3 - (intOf v).toNat)
      case atStart => exact ⟨0, by omega, rfl⟩
      case round =>
        obtain ⟨k, hk, rfl⟩ := hrel
        rcases (by omega : k = 0 ∨ k = 1 ∨ k = 2 ∨ k = 3) with rfl | rfl | rfl | rfl
        · skip
          go_wp2_with (first | (go_at_call 38; (first | (with_reducible refine (rin_yes _ _ _ _ (by omega) (by omega)).mono ?_) | (with_reducible refine (rin_no _ _ _ _ (by omega)).mono ?_)); rintro e w3 ⟨rfl, rfl⟩))
          exact ⟨⟨1, by omega, rfl⟩, by simp [intOf]⟩
        · skip
          go_wp2_with (first | (go_at_call 38; (first | (with_reducible refine (rin_yes _ _ _ _ (by omega) (by omega)).mono ?_) | (with_reducible refine (rin_no _ _ _ _ (by omega)).mono ?_)); rintro e w3 ⟨rfl, rfl⟩))
          exact ⟨⟨2, by omega, rfl⟩, by simp [intOf]⟩
        · skip
          go_wp2_with (first | (go_at_call 38; (first | (with_reducible refine (rin_yes _ _ _ _ (by omega) (by omega)).mono ?_) | (with_reducible refine (rin_no _ _ _ _ (by omega)).mono ?_)); rintro e w3 ⟨rfl, rfl⟩))
          exact ⟨⟨3, by omega, rfl⟩, by simp [intOf]⟩
        · skip
          go_wp2_with (first | (go_at_call 38; (first | (with_reducible refine (rin_yes _ _ _ _ (by omega) (by omega)).mono ?_) | (with_reducible refine (rin_no _ _ _ _ (by omega)).mono ?_)); rintro e w3 ⟨rfl, rfl⟩))
          go_ret
          exact ⟨rfl, (Below.refl _ _).alloc (Nat.le_refl _) _⟩
set_option maxHeartbeats 8000000 in
set_option maxRecDepth 100000 in
theorem right_no (t : T) (ht : ¬ t.Ok) (w : World) :
    Calls Try.prog 19 #[.agg t.cs] w fun e w' => e = .returned (.bool false) ∧ Below w.heap.size w w' := by
  obtain ⟨r0, r1, r2, r3, r4, r5, r6, r7, r8, r9, r10, r11, r12, r13, c0, c1, c2, b0, b1, b2, nc, n, ec, es⟩ := t
  rw [show (T.cs ⟨r0, r1, r2, r3, r4, r5, r6, r7, r8, r9, r10, r11, r12, r13, c0, c1, c2, b0, b1, b2, nc, n, ec, es⟩ : Array Value) = #[iv r0, iv r1, iv r2, iv r3, iv r4, iv r5, iv r6, iv r7, iv r8, iv r9, iv r10, iv r11, iv r12, iv r13, iv c0, iv c1, iv c2, iv b0, iv b1, iv b2, iv nc, iv n, iv ec, iv es] from rfl]
  go_enter Try.func19, Try.ntmps19
  go_wp2
  go_loop [8] (fun v => ∃ k : Nat, k ≤ 14 ∧ v = iv k ∧ (0 < k → (0 ≤ r0 ∧ r0 ≤ 255)) ∧ (1 < k → (0 ≤ r1 ∧ r1 ≤ 255)) ∧ (2 < k → (0 ≤ r2 ∧ r2 ≤ 255)) ∧ (3 < k → (0 ≤ r3 ∧ r3 ≤ 255)) ∧ (4 < k → (0 ≤ r4 ∧ r4 ≤ 255)) ∧ (5 < k → (0 ≤ r5 ∧ r5 ≤ 255)) ∧ (6 < k → (0 ≤ r6 ∧ r6 ≤ 255)) ∧ (7 < k → (0 ≤ r7 ∧ r7 ≤ 255)) ∧ (8 < k → (0 ≤ r8 ∧ r8 ≤ 255)) ∧ (9 < k → (0 ≤ r9 ∧ r9 ≤ 255)) ∧ (10 < k → (0 ≤ r10 ∧ r10 ≤ 255)) ∧ (11 < k → (0 ≤ r11 ∧ r11 ≤ 255)) ∧ (12 < k → (0 ≤ r12 ∧ r12 ≤ 255)) ∧ (13 < k → (0 ≤ r13 ∧ r13 ≤ 255))) (fun v => 14 - (intOf v).toNat)
  case atStart => exact ⟨0, by omega, rfl, fun h => absurd h (by omega), fun h => absurd h (by omega), fun h => absurd h (by omega), fun h => absurd h (by omega), fun h => absurd h (by omega), fun h => absurd h (by omega), fun h => absurd h (by omega), fun h => absurd h (by omega), fun h => absurd h (by omega), fun h => absurd h (by omega), fun h => absurd h (by omega), fun h => absurd h (by omega), fun h => absurd h (by omega), fun h => absurd h (by omega)⟩
  case round =>
    obtain ⟨k, hk, rfl, H0, H1, H2, H3, H4, H5, H6, H7, H8, H9, H10, H11, H12, H13⟩ := hrel
    rcases (by omega : k = 0 ∨ k = 1 ∨ k = 2 ∨ k = 3 ∨ k = 4 ∨ k = 5 ∨ k = 6 ∨ k = 7 ∨ k = 8 ∨ k = 9 ∨ k = 10 ∨ k = 11 ∨ k = 12 ∨ k = 13 ∨ k = 14) with rfl | rfl | rfl | rfl | rfl | rfl | rfl | rfl | rfl | rfl | rfl | rfl | rfl | rfl | rfl
    · clear H0 H1 H2 H3 H4 H5 H6 H7 H8 H9 H10 H11 H12 H13
      have ix : ∀ w, (Instr.index 32 (.agg #[iv r0, iv r1, iv r2, iv r3, iv r4, iv r5, iv r6, iv r7, iv r8, iv r9, iv r10, iv r11, iv r12, iv r13]) (iv 0)).run Try.prog w = .ok (iv r0) w := fun _ => by kernel_rfl
      rcases (by omega : (0 ≤ r0 ∧ r0 ≤ 255) ∨ (r0 < 0 ∨ 255 < r0)) with ⟨or0, pr0⟩ | hN
      · skip
        go_wp2_with (first | (go_at_call 38; (first | (with_reducible refine (rin_yes _ _ _ _ (by omega) (by omega)).mono ?_) | (with_reducible refine (rin_no _ _ _ _ (by omega)).mono ?_)); rintro e w3 ⟨rfl, rfl⟩))
        exact ⟨⟨1, by omega, rfl, fun _ => ⟨or0, pr0⟩, fun h => absurd h (by omega), fun h => absurd h (by omega), fun h => absurd h (by omega), fun h => absurd h (by omega), fun h => absurd h (by omega), fun h => absurd h (by omega), fun h => absurd h (by omega), fun h => absurd h (by omega), fun h => absurd h (by omega), fun h => absurd h (by omega), fun h => absurd h (by omega), fun h => absurd h (by omega), fun h => absurd h (by omega)⟩, by simp [intOf]⟩
      · go_wp2_with (first | (go_at_call 38; (first | (with_reducible refine (rin_yes _ _ _ _ (by omega) (by omega)).mono ?_) | (with_reducible refine (rin_no _ _ _ _ (by omega)).mono ?_)); rintro e w3 ⟨rfl, rfl⟩))
        go_ret
        exact ⟨rfl, (Below.refl _ _).alloc (Nat.le_refl _) _⟩
    · skip
      obtain ⟨or0, pr0⟩ := H0 (by omega)
      clear H0 H1 H2 H3 H4 H5 H6 H7 H8 H9 H10 H11 H12 H13
      have ix : ∀ w, (Instr.index 32 (.agg #[iv r0, iv r1, iv r2, iv r3, iv r4, iv r5, iv r6, iv r7, iv r8, iv r9, iv r10, iv r11, iv r12, iv r13]) (iv 1)).run Try.prog w = .ok (iv r1) w := fun _ => by kernel_rfl
      rcases (by omega : (0 ≤ r1 ∧ r1 ≤ 255) ∨ (r1 < 0 ∨ 255 < r1)) with ⟨or1, pr1⟩ | hN
      · skip
        go_wp2_with (first | (go_at_call 38; (first | (with_reducible refine (rin_yes _ _ _ _ (by omega) (by omega)).mono ?_) | (with_reducible refine (rin_no _ _ _ _ (by omega)).mono ?_)); rintro e w3 ⟨rfl, rfl⟩))
        exact ⟨⟨2, by omega, rfl, fun _ => ⟨or0, pr0⟩, fun _ => ⟨or1, pr1⟩, fun h => absurd h (by omega), fun h => absurd h (by omega), fun h => absurd h (by omega), fun h => absurd h (by omega), fun h => absurd h (by omega), fun h => absurd h (by omega), fun h => absurd h (by omega), fun h => absurd h (by omega), fun h => absurd h (by omega), fun h => absurd h (by omega), fun h => absurd h (by omega), fun h => absurd h (by omega)⟩, by simp [intOf]⟩
      · go_wp2_with (first | (go_at_call 38; (first | (with_reducible refine (rin_yes _ _ _ _ (by omega) (by omega)).mono ?_) | (with_reducible refine (rin_no _ _ _ _ (by omega)).mono ?_)); rintro e w3 ⟨rfl, rfl⟩))
        go_ret
        exact ⟨rfl, (Below.refl _ _).alloc (Nat.le_refl _) _⟩
    · skip
      obtain ⟨or0, pr0⟩ := H0 (by omega)
      obtain ⟨or1, pr1⟩ := H1 (by omega)
      clear H0 H1 H2 H3 H4 H5 H6 H7 H8 H9 H10 H11 H12 H13
      have ix : ∀ w, (Instr.index 32 (.agg #[iv r0, iv r1, iv r2, iv r3, iv r4, iv r5, iv r6, iv r7, iv r8, iv r9, iv r10, iv r11, iv r12, iv r13]) (iv 2)).run Try.prog w = .ok (iv r2) w := fun _ => by kernel_rfl
      rcases (by omega : (0 ≤ r2 ∧ r2 ≤ 255) ∨ (r2 < 0 ∨ 255 < r2)) with ⟨or2, pr2⟩ | hN
      · skip
        go_wp2_with (first | (go_at_call 38; (first | (with_reducible refine (rin_yes _ _ _ _ (by omega) (by omega)).mono ?_) | (with_reducible refine (rin_no _ _ _ _ (by omega)).mono ?_)); rintro e w3 ⟨rfl, rfl⟩))
        exact ⟨⟨3, by omega, rfl, fun _ => ⟨or0, pr0⟩, fun _ => ⟨or1, pr1⟩, fun _ => ⟨or2, pr2⟩, fun h => absurd h (by omega), fun h => absurd h (by omega), fun h => absurd h (by omega), fun h => absurd h (by omega), fun h => absurd h (by omega), fun h => absurd h (by omega), fun h => absurd h (by omega), fun h => absurd h (by omega), fun h => absurd h (by omega), fun h => absurd h (by omega), fun h => absurd h (by omega)⟩, by simp [intOf]⟩
      · go_wp2_with (first | (go_at_call 38; (first | (with_reducible refine (rin_yes _ _ _ _ (by omega) (by omega)).mono ?_) | (with_reducible refine (rin_no _ _ _ _ (by omega)).mono ?_)); rintro e w3 ⟨rfl, rfl⟩))
        go_ret
        exact ⟨rfl, (Below.refl _ _).alloc (Nat.le_refl _) _⟩
    · skip
      obtain ⟨or0, pr0⟩ := H0 (by omega)
      obtain ⟨or1, pr1⟩ := H1 (by omega)
      obtain ⟨or2, pr2⟩ := H2 (by omega)
      clear H0 H1 H2 H3 H4 H5 H6 H7 H8 H9 H10 H11 H12 H13
      have ix : ∀ w, (Instr.index 32 (.agg #[iv r0, iv r1, iv r2, iv r3, iv r4, iv r5, iv r6, iv r7, iv r8, iv r9, iv r10, iv r11, iv r12, iv r13]) (iv 3)).run Try.prog w = .ok (iv r3) w := fun _ => by kernel_rfl
      rcases (by omega : (0 ≤ r3 ∧ r3 ≤ 255) ∨ (r3 < 0 ∨ 255 < r3)) with ⟨or3, pr3⟩ | hN
      · skip
        go_wp2_with (first | (go_at_call 38; (first | (with_reducible refine (rin_yes _ _ _ _ (by omega) (by omega)).mono ?_) | (with_reducible refine (rin_no _ _ _ _ (by omega)).mono ?_)); rintro e w3 ⟨rfl, rfl⟩))
        exact ⟨⟨4, by omega, rfl, fun _ => ⟨or0, pr0⟩, fun _ => ⟨or1, pr1⟩, fun _ => ⟨or2, pr2⟩, fun _ => ⟨or3, pr3⟩, fun h => absurd h (by omega), fun h => absurd h (by omega), fun h => absurd h (by omega), fun h => absurd h (by omega), fun h => absurd h (by omega), fun h => absurd h (by omega), fun h => absurd h (by omega), fun h => absurd h (by omega), fun h => absurd h (by omega), fun h => absurd h (by omega)⟩, by simp [intOf]⟩
      · go_wp2_with (first | (go_at_call 38; (first | (with_reducible refine (rin_yes _ _ _ _ (by omega) (by omega)).mono ?_) | (with_reducible refine (rin_no _ _ _ _ (by omega)).mono ?_)); rintro e w3 ⟨rfl, rfl⟩))
        go_ret
        exact ⟨rfl, (Below.refl _ _).alloc (Nat.le_refl _) _⟩
    · skip
      obtain ⟨or0, pr0⟩ := H0 (by omega)
      obtain ⟨or1, pr1⟩ := H1 (by omega)
      obtain ⟨or2, pr2⟩ := H2 (by omega)
      obtain ⟨or3, pr3⟩ := H3 (by omega)
      clear H0 H1 H2 H3 H4 H5 H6 H7 H8 H9 H10 H11 H12 H13
      have ix : ∀ w, (Instr.index 32 (.agg #[iv r0, iv r1, iv r2, iv r3, iv r4, iv r5, iv r6, iv r7, iv r8, iv r9, iv r10, iv r11, iv r12, iv r13]) (iv 4)).run Try.prog w = .ok (iv r4) w := fun _ => by kernel_rfl
      rcases (by omega : (0 ≤ r4 ∧ r4 ≤ 255) ∨ (r4 < 0 ∨ 255 < r4)) with ⟨or4, pr4⟩ | hN
      · skip
        go_wp2_with (first | (go_at_call 38; (first | (with_reducible refine (rin_yes _ _ _ _ (by omega) (by omega)).mono ?_) | (with_reducible refine (rin_no _ _ _ _ (by omega)).mono ?_)); rintro e w3 ⟨rfl, rfl⟩))
        exact ⟨⟨5, by omega, rfl, fun _ => ⟨or0, pr0⟩, fun _ => ⟨or1, pr1⟩, fun _ => ⟨or2, pr2⟩, fun _ => ⟨or3, pr3⟩, fun _ => ⟨or4, pr4⟩, fun h => absurd h (by omega), fun h => absurd h (by omega), fun h => absurd h (by omega), fun h => absurd h (by omega), fun h => absurd h (by omega), fun h => absurd h (by omega), fun h => absurd h (by omega), fun h => absurd h (by omega), fun h => absurd h (by omega)⟩, by simp [intOf]⟩
      · go_wp2_with (first | (go_at_call 38; (first | (with_reducible refine (rin_yes _ _ _ _ (by omega) (by omega)).mono ?_) | (with_reducible refine (rin_no _ _ _ _ (by omega)).mono ?_)); rintro e w3 ⟨rfl, rfl⟩))
        go_ret
        exact ⟨rfl, (Below.refl _ _).alloc (Nat.le_refl _) _⟩
    · skip
      obtain ⟨or0, pr0⟩ := H0 (by omega)
      obtain ⟨or1, pr1⟩ := H1 (by omega)
      obtain ⟨or2, pr2⟩ := H2 (by omega)
      obtain ⟨or3, pr3⟩ := H3 (by omega)
      obtain ⟨or4, pr4⟩ := H4 (by omega)
      clear H0 H1 H2 H3 H4 H5 H6 H7 H8 H9 H10 H11 H12 H13
      have ix : ∀ w, (Instr.index 32 (.agg #[iv r0, iv r1, iv r2, iv r3, iv r4, iv r5, iv r6, iv r7, iv r8, iv r9, iv r10, iv r11, iv r12, iv r13]) (iv 5)).run Try.prog w = .ok (iv r5) w := fun _ => by kernel_rfl
      rcases (by omega : (0 ≤ r5 ∧ r5 ≤ 255) ∨ (r5 < 0 ∨ 255 < r5)) with ⟨or5, pr5⟩ | hN
      · skip
        go_wp2_with (first | (go_at_call 38; (first | (with_reducible refine (rin_yes _ _ _ _ (by omega) (by omega)).mono ?_) | (with_reducible refine (rin_no _ _ _ _ (by omega)).mono ?_)); rintro e w3 ⟨rfl, rfl⟩))
        exact ⟨⟨6, by omega, rfl, fun _ => ⟨or0, pr0⟩, fun _ => ⟨or1, pr1⟩, fun _ => ⟨or2, pr2⟩, fun _ => ⟨or3, pr3⟩, fun _ => ⟨or4, pr4⟩, fun _ => ⟨or5, pr5⟩, fun h => absurd h (by omega), fun h => absurd h (by omega), fun h => absurd h (by omega), fun h => absurd h (by omega), fun h => absurd h (by omega), fun h => absurd h (by omega), fun h => absurd h (by omega), fun h => absurd h (by omega)⟩, by simp [intOf]⟩
      · go_wp2_with (first | (go_at_call 38; (first | (with_reducible refine (rin_yes _ _ _ _ (by omega) (by omega)).mono ?_) | (with_reducible refine (rin_no _ _ _ _ (by omega)).mono ?_)); rintro e w3 ⟨rfl, rfl⟩))
        go_ret
        exact ⟨rfl, (Below.refl _ _).alloc (Nat.le_refl _) _⟩
    · skip
      obtain ⟨or0, pr0⟩ := H0 (by omega)
      obtain ⟨or1, pr1⟩ := H1 (by omega)
      obtain ⟨or2, pr2⟩ := H2 (by omega)
      obtain ⟨or3, pr3⟩ := H3 (by omega)
      obtain ⟨or4, pr4⟩ := H4 (by omega)
      obtain ⟨or5, pr5⟩ := H5 (by omega)
      clear H0 H1 H2 H3 H4 H5 H6 H7 H8 H9 H10 H11 H12 H13
      have ix : ∀ w, (Instr.index 32 (.agg #[iv r0, iv r1, iv r2, iv r3, iv r4, iv r5, iv r6, iv r7, iv r8, iv r9, iv r10, iv r11, iv r12, iv r13]) (iv 6)).run Try.prog w = .ok (iv r6) w := fun _ => by kernel_rfl
      rcases (by omega : (0 ≤ r6 ∧ r6 ≤ 255) ∨ (r6 < 0 ∨ 255 < r6)) with ⟨or6, pr6⟩ | hN
      · skip
        go_wp2_with (first | (go_at_call 38; (first | (with_reducible refine (rin_yes _ _ _ _ (by omega) (by omega)).mono ?_) | (with_reducible refine (rin_no _ _ _ _ (by omega)).mono ?_)); rintro e w3 ⟨rfl, rfl⟩))
        exact ⟨⟨7, by omega, rfl, fun _ => ⟨or0, pr0⟩, fun _ => ⟨or1, pr1⟩, fun _ => ⟨or2, pr2⟩, fun _ => ⟨or3, pr3⟩, fun _ => ⟨or4, pr4⟩, fun _ => ⟨or5, pr5⟩, fun _ => ⟨or6, pr6⟩, fun h => absurd h (by omega), fun h => absurd h (by omega), fun h => absurd h (by omega), fun h => absurd h (by omega), fun h => absurd h (by omega), fun h => absurd h (by omega), fun h => absurd h (by omega)⟩, by simp [intOf]⟩
      · go_wp2_with (first | (go_at_call 38; (first | (with_reducible refine (rin_yes _ _ _ _ (by omega) (by omega)).mono ?_) | (with_reducible refine (rin_no _ _ _ _ (by omega)).mono ?_)); rintro e w3 ⟨rfl, rfl⟩))
        go_ret
        exact ⟨rfl, (Below.refl _ _).alloc (Nat.le_refl _) _⟩
    · skip
      obtain ⟨or0, pr0⟩ := H0 (by omega)
      obtain ⟨or1, pr1⟩ := H1 (by omega)
      obtain ⟨or2, pr2⟩ := H2 (by omega)
      obtain ⟨or3, pr3⟩ := H3 (by omega)
      obtain ⟨or4, pr4⟩ := H4 (by omega)
      obtain ⟨or5, pr5⟩ := H5 (by omega)
      obtain ⟨or6, pr6⟩ := H6 (by omega)
      clear H0 H1 H2 H3 H4 H5 H6 H7 H8 H9 H10 H11 H12 H13
      have ix : ∀ w, (Instr.index 32 (.agg #[iv r0, iv r1, iv r2, iv r3, iv r4, iv r5, iv r6, iv r7, iv r8, iv r9, iv r10, iv r11, iv r12, iv r13]) (iv 7)).run Try.prog w = .ok (iv r7) w := fun _ => by kernel_rfl
      rcases (by omega : (0 ≤ r7 ∧ r7 ≤ 255) ∨ (r7 < 0 ∨ 255 < r7)) with ⟨or7, pr7⟩ | hN
      · skip
        go_wp2_with (first | (go_at_call 38; (first | (with_reducible refine (rin_yes _ _ _ _ (by omega) (by omega)).mono ?_) | (with_reducible refine (rin_no _ _ _ _ (by omega)).mono ?_)); rintro e w3 ⟨rfl, rfl⟩))
        exact ⟨⟨8, by omega, rfl, fun _ => ⟨or0, pr0⟩, fun _ => ⟨or1, pr1⟩, fun _ => ⟨or2, pr2⟩, fun _ => ⟨or3, pr3⟩, fun _ => ⟨or4, pr4⟩, fun _ => ⟨or5, pr5⟩, fun _ => ⟨or6, pr6⟩, fun _ => ⟨or7, pr7⟩, fun h => absurd h (by omega), fun h => absurd h (by omega), fun h => absurd h (by omega), fun h => absurd h (by omega), fun h => absurd h (by omega), fun h => absurd h (by omega)⟩, by simp [intOf]⟩
      · go_wp2_with (first | (go_at_call 38; (first | (with_reducible refine (rin_yes _ _ _ _ (by omega) (by omega)).mono ?_) | (with_reducible refine (rin_no _ _ _ _ (by omega)).mono ?_)); rintro e w3 ⟨rfl, rfl⟩))
        go_ret
        exact ⟨rfl, (Below.refl _ _).alloc (Nat.le_refl _) _⟩
    · skip
      obtain ⟨or0, pr0⟩ := H0 (by omega)
      obtain ⟨or1, pr1⟩ := H1 (by omega)
      obtain ⟨or2, pr2⟩ := H2 (by omega)
      obtain ⟨or3, pr3⟩ := H3 (by omega)
      obtain ⟨or4, pr4⟩ := H4 (by omega)
      obtain ⟨or5, pr5⟩ := H5 (by omega)
      obtain ⟨or6, pr6⟩ := H6 (by omega)
      obtain ⟨or7, pr7⟩ := H7 (by omega)
      clear H0 H1 H2 H3 H4 H5 H6 H7 H8 H9 H10 H11 H12 H13
      have ix : ∀ w, (Instr.index 32 (.agg #[iv r0, iv r1, iv r2, iv r3, iv r4, iv r5, iv r6, iv r7, iv r8, iv r9, iv r10, iv r11, iv r12, iv r13]) (iv 8)).run Try.prog w = .ok (iv r8) w := fun _ => by kernel_rfl
      rcases (by omega : (0 ≤ r8 ∧ r8 ≤ 255) ∨ (r8 < 0 ∨ 255 < r8)) with ⟨or8, pr8⟩ | hN
      · skip
        go_wp2_with (first | (go_at_call 38; (first | (with_reducible refine (rin_yes _ _ _ _ (by omega) (by omega)).mono ?_) | (with_reducible refine (rin_no _ _ _ _ (by omega)).mono ?_)); rintro e w3 ⟨rfl, rfl⟩))
        exact ⟨⟨9, by omega, rfl, fun _ => ⟨or0, pr0⟩, fun _ => ⟨or1, pr1⟩, fun _ => ⟨or2, pr2⟩, fun _ => ⟨or3, pr3⟩, fun _ => ⟨or4, pr4⟩, fun _ => ⟨or5, pr5⟩, fun _ => ⟨or6, pr6⟩, fun _ => ⟨or7, pr7⟩, fun _ => ⟨or8, pr8⟩, fun h => absurd h (by omega), fun h => absurd h (by omega), fun h => absurd h (by omega), fun h => absurd h (by omega), fun h => absurd h (by omega)⟩, by simp [intOf]⟩
      · go_wp2_with (first | (go_at_call 38; (first | (with_reducible refine (rin_yes _ _ _ _ (by omega) (by omega)).mono ?_) | (with_reducible refine (rin_no _ _ _ _ (by omega)).mono ?_)); rintro e w3 ⟨rfl, rfl⟩))
        go_ret
        exact ⟨rfl, (Below.refl _ _).alloc (Nat.le_refl _) _⟩
    · skip
      obtain ⟨or0, pr0⟩ := H0 (by omega)
      obtain ⟨or1, pr1⟩ := H1 (by omega)
      obtain ⟨or2, pr2⟩ := H2 (by omega)
      obtain ⟨or3, pr3⟩ := H3 (by omega)
      obtain ⟨or4, pr4⟩ := H4 (by omega)
      obtain ⟨or5, pr5⟩ := H5 (by omega)
      obtain ⟨or6, pr6⟩ := H6 (by omega)
      obtain ⟨or7, pr7⟩ := H7 (by omega)
      obtain ⟨or8, pr8⟩ := H8 (by omega)
      clear H0 H1 H2 H3 H4 H5 H6 H7 H8 H9 H10 H11 H12 H13
      have ix : ∀ w, (Instr.index 32 (.agg #[iv r0, iv r1, iv r2, iv r3, iv r4, iv r5, iv r6, iv r7, iv r8, iv r9, iv r10, iv r11, iv r12, iv r13]) (iv 9)).run Try.prog w = .ok (iv r9) w := fun _ => by kernel_rfl
      rcases (by omega : (0 ≤ r9 ∧ r9 ≤ 255) ∨ (r9 < 0 ∨ 255 < r9)) with ⟨or9, pr9⟩ | hN
      · skip
        go_wp2_with (first | (go_at_call 38; (first | (with_reducible refine (rin_yes _ _ _ _ (by omega) (by omega)).mono ?_) | (with_reducible refine (rin_no _ _ _ _ (by omega)).mono ?_)); rintro e w3 ⟨rfl, rfl⟩))
        exact ⟨⟨10, by omega, rfl, fun _ => ⟨or0, pr0⟩, fun _ => ⟨or1, pr1⟩, fun _ => ⟨or2, pr2⟩, fun _ => ⟨or3, pr3⟩, fun _ => ⟨or4, pr4⟩, fun _ => ⟨or5, pr5⟩, fun _ => ⟨or6, pr6⟩, fun _ => ⟨or7, pr7⟩, fun _ => ⟨or8, pr8⟩, fun _ => ⟨or9, pr9⟩, fun h => absurd h (by omega), fun h => absurd h (by omega), fun h => absurd h (by omega), fun h => absurd h (by omega)⟩, by simp [intOf]⟩
      · go_wp2_with (first | (go_at_call 38; (first | (with_reducible refine (rin_yes _ _ _ _ (by omega) (by omega)).mono ?_) | (with_reducible refine (rin_no _ _ _ _ (by omega)).mono ?_)); rintro e w3 ⟨rfl, rfl⟩))
        go_ret
        exact ⟨rfl, (Below.refl _ _).alloc (Nat.le_refl _) _⟩
    · skip
      obtain ⟨or0, pr0⟩ := H0 (by omega)
      obtain ⟨or1, pr1⟩ := H1 (by omega)
      obtain ⟨or2, pr2⟩ := H2 (by omega)
      obtain ⟨or3, pr3⟩ := H3 (by omega)
      obtain ⟨or4, pr4⟩ := H4 (by omega)
      obtain ⟨or5, pr5⟩ := H5 (by omega)
      obtain ⟨or6, pr6⟩ := H6 (by omega)
      obtain ⟨or7, pr7⟩ := H7 (by omega)
      obtain ⟨or8, pr8⟩ := H8 (by omega)
      obtain ⟨or9, pr9⟩ := H9 (by omega)
      clear H0 H1 H2 H3 H4 H5 H6 H7 H8 H9 H10 H11 H12 H13
      have ix : ∀ w, (Instr.index 32 (.agg #[iv r0, iv r1, iv r2, iv r3, iv r4, iv r5, iv r6, iv r7, iv r8, iv r9, iv r10, iv r11, iv r12, iv r13]) (iv 10)).run Try.prog w = .ok (iv r10) w := fun _ => by kernel_rfl
      rcases (by omega : (0 ≤ r10 ∧ r10 ≤ 255) ∨ (r10 < 0 ∨ 255 < r10)) with ⟨or10, pr10⟩ | hN
      · skip
        go_wp2_with (first | (go_at_call 38; (first | (with_reducible refine (rin_yes _ _ _ _ (by omega) (by omega)).mono ?_) | (with_reducible refine (rin_no _ _ _ _ (by omega)).mono ?_)); rintro e w3 ⟨rfl, rfl⟩))
        exact ⟨⟨11, by omega, rfl, fun _ => ⟨or0, pr0⟩, fun _ => ⟨or1, pr1⟩, fun _ => ⟨or2, pr2⟩, fun _ => ⟨or3, pr3⟩, fun _ => ⟨or4, pr4⟩, fun _ => ⟨or5, pr5⟩, fun _ => ⟨or6, pr6⟩, fun _ => ⟨or7, pr7⟩, fun _ => ⟨or8, pr8⟩, fun _ => ⟨or9, pr9⟩, fun _ => ⟨or10, pr10⟩, fun h => absurd h (by omega), fun h => absurd h (by omega), fun h => absurd h (by omega)⟩, by simp [intOf]⟩
      · go_wp2_with (first | (go_at_call 38; (first | (with_reducible refine (rin_yes _ _ _ _ (by omega) (by omega)).mono ?_) | (with_reducible refine (rin_no _ _ _ _ (by omega)).mono ?_)); rintro e w3 ⟨rfl, rfl⟩))
        go_ret
        exact ⟨rfl, (Below.refl _ _).alloc (Nat.le_refl _) _⟩
    · skip
      obtain ⟨or0, pr0⟩ := H0 (by omega)
      obtain ⟨or1, pr1⟩ := H1 (by omega)
      obtain ⟨or2, pr2⟩ := H2 (by omega)
      obtain ⟨or3, pr3⟩ := H3 (by omega)
      obtain ⟨or4, pr4⟩ := H4 (by omega)
      obtain ⟨or5, pr5⟩ := H5 (by omega)
      obtain ⟨or6, pr6⟩ := H6 (by omega)
      obtain ⟨or7, pr7⟩ := H7 (by omega)
      obtain ⟨or8, pr8⟩ := H8 (by omega)
      obtain ⟨or9, pr9⟩ := H9 (by omega)
      obtain ⟨or10, pr10⟩ := H10 (by omega)
      clear H0 H1 H2 H3 H4 H5 H6 H7 H8 H9 H10 H11 H12 H13
      have ix : ∀ w, (Instr.index 32 (.agg #[iv r0, iv r1, iv r2, iv r3, iv r4, iv r5, iv r6, iv r7, iv r8, iv r9, iv r10, iv r11, iv r12, iv r13]) (iv 11)).run Try.prog w = .ok (iv r11) w := fun _ => by kernel_rfl
      rcases (by omega : (0 ≤ r11 ∧ r11 ≤ 255) ∨ (r11 < 0 ∨ 255 < r11)) with ⟨or11, pr11⟩ | hN
      · skip
        go_wp2_with (first | (go_at_call 38; (first | (with_reducible refine (rin_yes _ _ _ _ (by omega) (by omega)).mono ?_) | (with_reducible refine (rin_no _ _ _ _ (by omega)).mono ?_)); rintro e w3 ⟨rfl, rfl⟩))
        exact ⟨⟨12, by omega, rfl, fun _ => ⟨or0, pr0⟩, fun _ => ⟨or1, pr1⟩, fun _ => ⟨or2, pr2⟩, fun _ => ⟨or3, pr3⟩, fun _ => ⟨or4, pr4⟩, fun _ => ⟨or5, pr5⟩, fun _ => ⟨or6, pr6⟩, fun _ => ⟨or7, pr7⟩, fun _ => ⟨or8, pr8⟩, fun _ => ⟨or9, pr9⟩, fun _ => ⟨or10, pr10⟩, fun _ => ⟨or11, pr11⟩, fun h => absurd h (by omega), fun h => absurd h (by omega)⟩, by simp [intOf]⟩
      · go_wp2_with (first | (go_at_call 38; (first | (with_reducible refine (rin_yes _ _ _ _ (by omega) (by omega)).mono ?_) | (with_reducible refine (rin_no _ _ _ _ (by omega)).mono ?_)); rintro e w3 ⟨rfl, rfl⟩))
        go_ret
        exact ⟨rfl, (Below.refl _ _).alloc (Nat.le_refl _) _⟩
    · skip
      obtain ⟨or0, pr0⟩ := H0 (by omega)
      obtain ⟨or1, pr1⟩ := H1 (by omega)
      obtain ⟨or2, pr2⟩ := H2 (by omega)
      obtain ⟨or3, pr3⟩ := H3 (by omega)
      obtain ⟨or4, pr4⟩ := H4 (by omega)
      obtain ⟨or5, pr5⟩ := H5 (by omega)
      obtain ⟨or6, pr6⟩ := H6 (by omega)
      obtain ⟨or7, pr7⟩ := H7 (by omega)
      obtain ⟨or8, pr8⟩ := H8 (by omega)
      obtain ⟨or9, pr9⟩ := H9 (by omega)
      obtain ⟨or10, pr10⟩ := H10 (by omega)
      obtain ⟨or11, pr11⟩ := H11 (by omega)
      clear H0 H1 H2 H3 H4 H5 H6 H7 H8 H9 H10 H11 H12 H13
      have ix : ∀ w, (Instr.index 32 (.agg #[iv r0, iv r1, iv r2, iv r3, iv r4, iv r5, iv r6, iv r7, iv r8, iv r9, iv r10, iv r11, iv r12, iv r13]) (iv 12)).run Try.prog w = .ok (iv r12) w := fun _ => by kernel_rfl
      rcases (by omega : (0 ≤ r12 ∧ r12 ≤ 255) ∨ (r12 < 0 ∨ 255 < r12)) with ⟨or12, pr12⟩ | hN
      · skip
        go_wp2_with (first | (go_at_call 38; (first | (with_reducible refine (rin_yes _ _ _ _ (by omega) (by omega)).mono ?_) | (with_reducible refine (rin_no _ _ _ _ (by omega)).mono ?_)); rintro e w3 ⟨rfl, rfl⟩))
        exact ⟨⟨13, by omega, rfl, fun _ => ⟨or0, pr0⟩, fun _ => ⟨or1, pr1⟩, fun _ => ⟨or2, pr2⟩, fun _ => ⟨or3, pr3⟩, fun _ => ⟨or4, pr4⟩, fun _ => ⟨or5, pr5⟩, fun _ => ⟨or6, pr6⟩, fun _ => ⟨or7, pr7⟩, fun _ => ⟨or8, pr8⟩, fun _ => ⟨or9, pr9⟩, fun _ => ⟨or10, pr10⟩, fun _ => ⟨or11, pr11⟩, fun _ => ⟨or12, pr12⟩, fun h => absurd h (by omega)⟩, by simp [intOf]⟩
      · go_wp2_with (first | (go_at_call 38; (first | (with_reducible refine (rin_yes _ _ _ _ (by omega) (by omega)).mono ?_) | (with_reducible refine (rin_no _ _ _ _ (by omega)).mono ?_)); rintro e w3 ⟨rfl, rfl⟩))
        go_ret
        exact ⟨rfl, (Below.refl _ _).alloc (Nat.le_refl _) _⟩
    · skip
      obtain ⟨or0, pr0⟩ := H0 (by omega)
      obtain ⟨or1, pr1⟩ := H1 (by omega)
      obtain ⟨or2, pr2⟩ := H2 (by omega)
      obtain ⟨or3, pr3⟩ := H3 (by omega)
      obtain ⟨or4, pr4⟩ := H4 (by omega)
      obtain ⟨or5, pr5⟩ := H5 (by omega)
      obtain ⟨or6, pr6⟩ := H6 (by omega)
      obtain ⟨or7, pr7⟩ := H7 (by omega)
      obtain ⟨or8, pr8⟩ := H8 (by omega)
      obtain ⟨or9, pr9⟩ := H9 (by omega)
      obtain ⟨or10, pr10⟩ := H10 (by omega)
      obtain ⟨or11, pr11⟩ := H11 (by omega)
      obtain ⟨or12, pr12⟩ := H12 (by omega)
      clear H0 H1 H2 H3 H4 H5 H6 H7 H8 H9 H10 H11 H12 H13
      have ix : ∀ w, (Instr.index 32 (.agg #[iv r0, iv r1, iv r2, iv r3, iv r4, iv r5, iv r6, iv r7, iv r8, iv r9, iv r10, iv r11, iv r12, iv r13]) (iv 13)).run Try.prog w = .ok (iv r13) w := fun _ => by kernel_rfl
      rcases (by omega : (0 ≤ r13 ∧ r13 ≤ 255) ∨ (r13 < 0 ∨ 255 < r13)) with ⟨or13, pr13⟩ | hN
      · skip
        go_wp2_with (first | (go_at_call 38; (first | (with_reducible refine (rin_yes _ _ _ _ (by omega) (by omega)).mono ?_) | (with_reducible refine (rin_no _ _ _ _ (by omega)).mono ?_)); rintro e w3 ⟨rfl, rfl⟩))
        exact ⟨⟨14, by omega, rfl, fun _ => ⟨or0, pr0⟩, fun _ => ⟨or1, pr1⟩, fun _ => ⟨or2, pr2⟩, fun _ => ⟨or3, pr3⟩, fun _ => ⟨or4, pr4⟩, fun _ => ⟨or5, pr5⟩, fun _ => ⟨or6, pr6⟩, fun _ => ⟨or7, pr7⟩, fun _ => ⟨or8, pr8⟩, fun _ => ⟨or9, pr9⟩, fun _ => ⟨or10, pr10⟩, fun _ => ⟨or11, pr11⟩, fun _ => ⟨or12, pr12⟩, fun _ => ⟨or13, pr13⟩⟩, by simp [intOf]⟩
      · go_wp2_with (first | (go_at_call 38; (first | (with_reducible refine (rin_yes _ _ _ _ (by omega) (by omega)).mono ?_) | (with_reducible refine (rin_no _ _ _ _ (by omega)).mono ?_)); rintro e w3 ⟨rfl, rfl⟩))
        go_ret
        exact ⟨rfl, (Below.refl _ _).alloc (Nat.le_refl _) _⟩
    · skip
      obtain ⟨or0, pr0⟩ := H0 (by omega)
      obtain ⟨or1, pr1⟩ := H1 (by omega)
      obtain ⟨or2, pr2⟩ := H2 (by omega)
      obtain ⟨or3, pr3⟩ := H3 (by omega)
      obtain ⟨or4, pr4⟩ := H4 (by omega)
      obtain ⟨or5, pr5⟩ := H5 (by omega)
      obtain ⟨or6, pr6⟩ := H6 (by omega)
      obtain ⟨or7, pr7⟩ := H7 (by omega)
      obtain ⟨or8, pr8⟩ := H8 (by omega)
      obtain ⟨or9, pr9⟩ := H9 (by omega)
      obtain ⟨or10, pr10⟩ := H10 (by omega)
      obtain ⟨or11, pr11⟩ := H11 (by omega)
      obtain ⟨or12, pr12⟩ := H12 (by omega)
      obtain ⟨or13, pr13⟩ := H13 (by omega)
      clear H0 H1 H2 H3 H4 H5 H6 H7 H8 H9 H10 H11 H12 H13
      go_wp2
      go_loop [5] (fun v => ∃ k : Nat, k ≤ 3 ∧ v = iv k ∧ (0 < k → (0 ≤ c0 ∧ c0 ≤ 65535) ∧ (0 ≤ b0 ∧ b0 ≤ 1)) ∧ (1 < k → (0 ≤ c1 ∧ c1 ≤ 65535) ∧ (0 ≤ b1 ∧ b1 ≤ 1)) ∧ (2 < k → (0 ≤ c2 ∧ c2 ≤ 65535) ∧ (0 ≤ b2 ∧ b2 ≤ 1))) (fun v => 3 - (intOf v).toNat)
      case atStart => exact ⟨0, by omega, rfl, fun h => absurd h (by omega), fun h => absurd h (by omega), fun h => absurd h (by omega)⟩
      case round =>
        obtain ⟨k, hk, rfl, H0, H1, H2⟩ := hrel
        rcases (by omega : k = 0 ∨ k = 1 ∨ k = 2 ∨ k = 3) with rfl | rfl | rfl | rfl
        · clear H0 H1 H2
          rcases (by omega : (0 ≤ c0 ∧ c0 ≤ 65535) ∨ (c0 < 0 ∨ 65535 < c0)) with ⟨oc0, pc0⟩ | hN
          · skip
            rcases (by omega : (0 ≤ b0 ∧ b0 ≤ 1) ∨ (b0 < 0 ∨ 1 < b0)) with ⟨ob0, pb0⟩ | hN
            · skip
              go_wp2_with (first | (go_at_call 38; (first | (with_reducible refine (rin_yes _ _ _ _ (by omega) (by omega)).mono ?_) | (with_reducible refine (rin_no _ _ _ _ (by omega)).mono ?_)); rintro e w3 ⟨rfl, rfl⟩))
              exact ⟨⟨1, by omega, rfl, fun _ => ⟨⟨oc0, pc0⟩, ⟨ob0, pb0⟩⟩, fun h => absurd h (by omega), fun h => absurd h (by omega)⟩, by simp [intOf]⟩
            · go_wp2_with (first | (go_at_call 38; (first | (with_reducible refine (rin_yes _ _ _ _ (by omega) (by omega)).mono ?_) | (with_reducible refine (rin_no _ _ _ _ (by omega)).mono ?_)); rintro e w3 ⟨rfl, rfl⟩))
              go_ret
              exact ⟨rfl, (Below.refl _ _).alloc (Nat.le_refl _) _⟩
          · go_wp2_with (first | (go_at_call 38; (first | (with_reducible refine (rin_yes _ _ _ _ (by omega) (by omega)).mono ?_) | (with_reducible refine (rin_no _ _ _ _ (by omega)).mono ?_)); rintro e w3 ⟨rfl, rfl⟩))
            go_ret
            exact ⟨rfl, (Below.refl _ _).alloc (Nat.le_refl _) _⟩
        · skip
          obtain ⟨⟨oc0, pc0⟩, ⟨ob0, pb0⟩⟩ := H0 (by omega)
          clear H0 H1 H2
          rcases (by omega : (0 ≤ c1 ∧ c1 ≤ 65535) ∨ (c1 < 0 ∨ 65535 < c1)) with ⟨oc1, pc1⟩ | hN
          · skip
            rcases (by omega : (0 ≤ b1 ∧ b1 ≤ 1) ∨ (b1 < 0 ∨ 1 < b1)) with ⟨ob1, pb1⟩ | hN
            · skip
              go_wp2_with (first | (go_at_call 38; (first | (with_reducible refine (rin_yes _ _ _ _ (by omega) (by omega)).mono ?_) | (with_reducible refine (rin_no _ _ _ _ (by omega)).mono ?_)); rintro e w3 ⟨rfl, rfl⟩))
              exact ⟨⟨2, by omega, rfl, fun _ => ⟨⟨oc0, pc0⟩, ⟨ob0, pb0⟩⟩, fun _ => ⟨⟨oc1, pc1⟩, ⟨ob1, pb1⟩⟩, fun h => absurd h (by omega)⟩, by simp [intOf]⟩
            · go_wp2_with (first | (go_at_call 38; (first | (with_reducible refine (rin_yes _ _ _ _ (by omega) (by omega)).mono ?_) | (with_reducible refine (rin_no _ _ _ _ (by omega)).mono ?_)); rintro e w3 ⟨rfl, rfl⟩))
              go_ret
              exact ⟨rfl, (Below.refl _ _).alloc (Nat.le_refl _) _⟩
          · go_wp2_with (first | (go_at_call 38; (first | (with_reducible refine (rin_yes _ _ _ _ (by omega) (by omega)).mono ?_) | (with_reducible refine (rin_no _ _ _ _ (by omega)).mono ?_)); rintro e w3 ⟨rfl, rfl⟩))
            go_ret
            exact ⟨rfl, (Below.refl _ _).alloc (Nat.le_refl _) _⟩
        · skip
          obtain ⟨⟨oc0, pc0⟩, ⟨ob0, pb0⟩⟩ := H0 (by omega)
          obtain ⟨⟨oc1, pc1⟩, ⟨ob1, pb1⟩⟩ := H1 (by omega)
          clear H0 H1 H2
          rcases (by omega : (0 ≤ c2 ∧ c2 ≤ 65535) ∨ (c2 < 0 ∨ 65535 < c2)) with ⟨oc2, pc2⟩ | hN
          · skip
            rcases (by omega : (0 ≤ b2 ∧ b2 ≤ 1) ∨ (b2 < 0 ∨ 1 < b2)) with ⟨ob2, pb2⟩ | hN
            · skip
              go_wp2_with (first | (go_at_call 38; (first | (with_reducible refine (rin_yes _ _ _ _ (by omega) (by omega)).mono ?_) | (with_reducible refine (rin_no _ _ _ _ (by omega)).mono ?_)); rintro e w3 ⟨rfl, rfl⟩))
              exact ⟨⟨3, by omega, rfl, fun _ => ⟨⟨oc0, pc0⟩, ⟨ob0, pb0⟩⟩, fun _ => ⟨⟨oc1, pc1⟩, ⟨ob1, pb1⟩⟩, fun _ => ⟨⟨oc2, pc2⟩, ⟨ob2, pb2⟩⟩⟩, by simp [intOf]⟩
            · go_wp2_with (first | (go_at_call 38; (first | (with_reducible refine (rin_yes _ _ _ _ (by omega) (by omega)).mono ?_) | (with_reducible refine (rin_no _ _ _ _ (by omega)).mono ?_)); rintro e w3 ⟨rfl, rfl⟩))
              go_ret
              exact ⟨rfl, (Below.refl _ _).alloc (Nat.le_refl _) _⟩
          · go_wp2_with (first | (go_at_call 38; (first | (with_reducible refine (rin_yes _ _ _ _ (by omega) (by omega)).mono ?_) | (with_reducible refine (rin_no _ _ _ _ (by omega)).mono ?_)); rintro e w3 ⟨rfl, rfl⟩))
            go_ret
            exact ⟨rfl, (Below.refl _ _).alloc (Nat.le_refl _) _⟩
        · skip
          obtain ⟨⟨oc0, pc0⟩, ⟨ob0, pb0⟩⟩ := H0 (by omega)
          obtain ⟨⟨oc1, pc1⟩, ⟨ob1, pb1⟩⟩ := H1 (by omega)
          obtain ⟨⟨oc2, pc2⟩, ⟨ob2, pb2⟩⟩ := H2 (by omega)
          clear H0 H1 H2
          rcases (by omega : (0 ≤ nc ∧ nc ≤ 65535) ∨ (nc < 0 ∨ 65535 < nc)) with ⟨onc, pnc⟩ | hN
          · skip
            rcases (by omega : (1 ≤ n ∧ n ≤ 131071) ∨ (n < 1 ∨ 131071 < n)) with ⟨on, pn⟩ | hN
            · skip
              rcases (by omega : (0 ≤ ec ∧ ec ≤ 65535) ∨ (ec < 0 ∨ 65535 < ec)) with ⟨oec, pec⟩ | hN
              · skip
                rcases (by omega : (0 ≤ es ∧ es ≤ 63) ∨ (es < 0 ∨ 63 < es)) with ⟨oes, pes⟩ | hN
                · skip
                  exact absurd (⟨⟨or0, pr0⟩, ⟨or1, pr1⟩, ⟨or2, pr2⟩, ⟨or3, pr3⟩, ⟨or4, pr4⟩, ⟨or5, pr5⟩, ⟨or6, pr6⟩, ⟨or7, pr7⟩, ⟨or8, pr8⟩, ⟨or9, pr9⟩, ⟨or10, pr10⟩, ⟨or11, pr11⟩, ⟨or12, pr12⟩, ⟨or13, pr13⟩, ⟨oc0, pc0⟩, ⟨oc1, pc1⟩, ⟨oc2, pc2⟩, ⟨ob0, pb0⟩, ⟨ob1, pb1⟩, ⟨ob2, pb2⟩, ⟨onc, pnc⟩, ⟨on, pn⟩, ⟨oec, pec⟩, ⟨oes, pes⟩⟩ : T.Ok ⟨r0, r1, r2, r3, r4, r5, r6, r7, r8, r9, r10, r11, r12, r13, c0, c1, c2, b0, b1, b2, nc, n, ec, es⟩) ht
                · go_wp2_with (first | (go_at_call 38; (first | (with_reducible refine (rin_yes _ _ _ _ (by omega) (by omega)).mono ?_) | (with_reducible refine (rin_no _ _ _ _ (by omega)).mono ?_)); rintro e w3 ⟨rfl, rfl⟩))
                  go_ret
                  exact ⟨rfl, (Below.refl _ _).alloc (Nat.le_refl _) _⟩
              · go_wp2_with (first | (go_at_call 38; (first | (with_reducible refine (rin_yes _ _ _ _ (by omega) (by omega)).mono ?_) | (with_reducible refine (rin_no _ _ _ _ (by omega)).mono ?_)); rintro e w3 ⟨rfl, rfl⟩))
                go_ret
                exact ⟨rfl, (Below.refl _ _).alloc (Nat.le_refl _) _⟩
            · go_wp2_with (first | (go_at_call 38; (first | (with_reducible refine (rin_yes _ _ _ _ (by omega) (by omega)).mono ?_) | (with_reducible refine (rin_no _ _ _ _ (by omega)).mono ?_)); rintro e w3 ⟨rfl, rfl⟩))
              go_ret
              exact ⟨rfl, (Below.refl _ _).alloc (Nat.le_refl _) _⟩
          · go_wp2_with (first | (go_at_call 38; (first | (with_reducible refine (rin_yes _ _ _ _ (by omega) (by omega)).mono ?_) | (with_reducible refine (rin_no _ _ _ _ (by omega)).mono ?_)); rintro e w3 ⟨rfl, rfl⟩))
            go_ret
            exact ⟨rfl, (Below.refl _ _).alloc (Nat.le_refl _) _⟩
end Go.Proofs.Ytfpgidflaaefeaa.CH

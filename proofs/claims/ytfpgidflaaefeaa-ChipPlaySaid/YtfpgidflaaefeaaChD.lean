/- The tone chip: a step of the reference; conditions: the chip is in its ranges. -/
import Derived.Test.YtfpgidflaaefeaaChC
namespace Go.Proofs.Ytfpgidflaaefeaa.CH
open Go.RowKit Go.Proofs.YtfpgidflaaefeaaW.PrintLast
set_option linter.unusedVariables false
set_option linter.unusedSimpArgs false
set_option maxHeartbeats 8000000 in
set_option maxRecDepth 100000 in
theorem rstepped_any (t : T) (ht : t.Ok) (w : World) :
    Calls Try.prog 43 #[.agg t.cs] w fun e w' => e = .returned (.agg t.step.cs) ∧ Below w.heap.size w w' := by
  have hok := tk_ok ht
  obtain ⟨t3, ht3⟩ : ∃ t3, t3 = T.tk t 3 := ⟨_, rfl⟩
  have HT : t.step = t3.fin := by rw [ht3]; rfl
  rw [HT]
  rw [← ht3] at hok
  have H3 := Lib.hid ht3
  clear HT ht3
  obtain ⟨r0, r1, r2, r3, r4, r5, r6, r7, r8, r9, r10, r11, r12, r13, c0, c1, c2, b0, b1, b2, nc, n, ec, es⟩ := t
  obtain ⟨⟨or0, pr0⟩, ⟨or1, pr1⟩, ⟨or2, pr2⟩, ⟨or3, pr3⟩, ⟨or4, pr4⟩, ⟨or5, pr5⟩, ⟨or6, pr6⟩, ⟨or7, pr7⟩, ⟨or8, pr8⟩, ⟨or9, pr9⟩, ⟨or10, pr10⟩, ⟨or11, pr11⟩, ⟨or12, pr12⟩, ⟨or13, pr13⟩, ⟨oc0, pc0⟩, ⟨oc1, pc1⟩, ⟨oc2, pc2⟩, ⟨ob0, pb0⟩, ⟨ob1, pb1⟩, ⟨ob2, pb2⟩, ⟨onc, pnc⟩, ⟨on, pn⟩, ⟨oec, pec⟩, ⟨oes, pes⟩⟩ := ht
  simp only at or0 pr0 or1 pr1 or2 pr2 or3 pr3 or4 pr4 or5 pr5 or6 pr6 or7 pr7 or8 pr8 or9 pr9 or10 pr10 or11 pr11 or12 pr12 or13 pr13 oc0 pc0 oc1 pc1 oc2 pc2 ob0 pb0 ob1 pb1 ob2 pb2 onc pnc on pn oec pec oes pes
  rw [show (T.cs ⟨r0, r1, r2, r3, r4, r5, r6, r7, r8, r9, r10, r11, r12, r13, c0, c1, c2, b0, b1, b2, nc, n, ec, es⟩ : Array Value) = #[iv r0, iv r1, iv r2, iv r3, iv r4, iv r5, iv r6, iv r7, iv r8, iv r9, iv r10, iv r11, iv r12, iv r13, iv c0, iv c1, iv c2, iv b0, iv b1, iv b2, iv nc, iv n, iv ec, iv es] from rfl]
  obtain ⟨u0, v0⟩ := per_bd or0 pr0 or1 pr1
  obtain ⟨u1, v1⟩ := per_bd or2 pr2 or3 pr3
  obtain ⟨u2, v2⟩ := per_bd or4 pr4 or5 pr5
  go_enter Try.func43, Try.ntmps43
  go_wp2
  go_loopw [3, 4] (fun q v wr => ∃ k : Nat, k ≤ 3 ∧ v = iv k ∧ (∃ d : Bool, q = .bool d) ∧ wr.heap[w.heap.size]? = some (.cells (T.cs (T.tk ⟨r0, r1, r2, r3, r4, r5, r6, r7, r8, r9, r10, r11, r12, r13, c0, c1, c2, b0, b1, b2, nc, n, ec, es⟩ k)) 35 (0, 0)) ∧ wr.heap[w.heap.size + 1]? = some (.cells #[iv 0, iv 0, iv 0, iv 0, iv 0, iv 0, iv 0, iv 0, iv 0, iv 0, iv 0, iv 0, iv 0, iv 0, iv 0, iv 0, iv 0, iv 0, iv 0, iv 0, iv 0, iv 0, iv 0, iv 0] 35 (0, 0)) ∧ Below w.heap.size w wr) (fun _ v _ => 3 - (intOf v).toNat)
  case atStart => exact ⟨0, by omega, rfl, ⟨_, rfl⟩, (Below.heap_alloc _ _ _ (by simp)).trans (heap_alloc_new w _), heap_alloc2_new w _ _, ((Below.refl _ _).alloc (Nat.le_refl _) _).alloc (by simp) _⟩
  case round =>
    obtain ⟨k, hk, rfl, ⟨d, rfl⟩, hA, hZ, hD⟩ := hrel
    rcases (by omega : k = 0 ∨ k = 1 ∨ k = 2 ∨ k = 3) with rfl | rfl | rfl | rfl
    · have A0 : wr.heap[w.heap.size]? = some (.cells #[iv r0, iv r1, iv r2, iv r3, iv r4, iv r5, iv r6, iv r7, iv r8, iv r9, iv r10, iv r11, iv r12, iv r13, iv c0, iv c1, iv c2, iv b0, iv b1, iv b2, iv nc, iv n, iv ec, iv es] 35 (0, 0)) := hA
      clear hA
      go_wp2
      have z0 : wrap64 0 = 0 := by unfold wrap64; omega
      have z1 : wrap64 1 = 1 := by unfold wrap64; omega
      have tm : r1.tmod 16 = r1 % 16 := Int.tmod_eq_emod_of_nonneg or1
      have z2 : wrap64 (256 * (r1 % 16)) = 256 * (r1 % 16) := by unfold wrap64; omega
      have z3 : wrap64 (r0 + 256 * (r1 % 16)) = r0 + 256 * (r1 % 16) := by unfold wrap64; omega
      refine start_ (n := 27) (S := fun w' => w'.heap[w.heap.size]? = some (.cells #[iv r0, iv r1, iv r2, iv r3, iv r4, iv r5, iv r6, iv r7, iv r8, iv r9, iv r10, iv r11, iv r12, iv r13, iv c0, iv c1, iv c2, iv b0, iv b1, iv b2, iv nc, iv n, iv ec, iv es] 35 (0, 0)) ∧ w'.heap[w.heap.size + 1]? = some (.cells #[iv 0, iv 0, iv 0, iv 0, iv 0, iv 0, iv 0, iv 0, iv 0, iv 0, iv 0, iv 0, iv 0, iv 0, iv 0, iv 0, iv 0, iv 0, iv 0, iv 0, iv 0, iv 0, iv 0, iv 0] 35 (0, 0)) ∧ Below w.heap.size w w') (ds := [25]) #[false, false, false, false, false, false, false, false, false, false, false, false, false, false, false, false, false, false, false, false, false, false, false, false, false, false, false] (by kernel_rfl) rfl rfl ⟨A0, hZ, hD.drew⟩ (fun hHeld => ?_)
      refine pure_ (i := 0) (N := some 11) (v := ?_) (a' := ?_) #[true, false, false, false, false, false, false, false, false, false, false, false, false, false, false, false, false, false, false, false, false, false, false, false, false, false, false] rfl rfl (by kernel_rfl) (fun _ _ _ h => h) (Or.inl ⟨by rfl, ?_⟩) ?_ ?_
      rotate_left
      · intro w'
        go_simp
        with_reducible rfl
      rotate_left
      · simp only [Act.put, List.setIfInBounds_toArray, List.set_cons_zero, List.set_cons_succ, i64_w, i32_w, tm, z0, z1, z2, z3]
        rfl
      refine pure_ (i := 1) (N := some 12) (v := ?_) (a' := ?_) #[true, true, false, false, false, false, false, false, false, false, false, false, false, false, false, false, false, false, false, false, false, false, false, false, false, false, false] rfl rfl (by kernel_rfl) (fun _ _ _ h => h) (Or.inl ⟨by rfl, ?_⟩) ?_ ?_
      rotate_left
      · intro w'
        go_simp
        with_reducible rfl
      rotate_left
      · simp only [Act.put, List.setIfInBounds_toArray, List.set_cons_zero, List.set_cons_succ, i64_w, i32_w, tm, z0, z1, z2, z3]
        rfl
      refine pure_ (i := 2) (N := some 13) (v := ?_) (a' := ?_) #[true, true, true, false, false, false, false, false, false, false, false, false, false, false, false, false, false, false, false, false, false, false, false, false, false, false, false] rfl rfl (by kernel_rfl) (fun _ _ _ h => h) (Or.inl ⟨by rfl, ?_⟩) ?_ ?_
      rotate_left
      · intro w'
        go_simp
        with_reducible rfl
      rotate_left
      · simp only [Act.put, List.setIfInBounds_toArray, List.set_cons_zero, List.set_cons_succ, i64_w, i32_w, tm, z0, z1, z2, z3]
        rfl
      refine pure_ (i := 3) (N := some 14) (v := ?_) (a' := ?_) #[true, true, true, true, false, false, false, false, false, false, false, false, false, false, false, false, false, false, false, false, false, false, false, false, false, false, false] rfl rfl (by kernel_rfl) (fun _ _ _ h => h) (Or.inl ⟨by rfl, ?_⟩) ?_ ?_
      rotate_left
      · intro w'
        go_simp
        with_reducible rfl
      rotate_left
      · simp only [Act.put, List.setIfInBounds_toArray, List.set_cons_zero, List.set_cons_succ, i64_w, i32_w, tm, z0, z1, z2, z3]
        rfl
      refine pure_ (i := 5) (N := some 16) (v := ?_) (a' := ?_) #[true, true, true, true, false, true, false, false, false, false, false, false, false, false, false, false, false, false, false, false, false, false, false, false, false, false, false] rfl rfl (by kernel_rfl) (fun _ _ _ h => h) (Or.inl ⟨by rfl, ?_⟩) ?_ ?_
      rotate_left
      · intro w'
        go_simp
        with_reducible rfl
      rotate_left
      · simp only [Act.put, List.setIfInBounds_toArray, List.set_cons_zero, List.set_cons_succ, i64_w, i32_w, tm, z0, z1, z2, z3]
        rfl
      refine pure_ (i := 6) (N := some 17) (v := ?_) (a' := ?_) #[true, true, true, true, false, true, true, false, false, false, false, false, false, false, false, false, false, false, false, false, false, false, false, false, false, false, false] rfl rfl (by kernel_rfl) (fun _ _ _ h => h) (Or.inl ⟨by rfl, ?_⟩) ?_ ?_
      rotate_left
      · intro w'
        go_simp
        with_reducible rfl
      rotate_left
      · simp only [Act.put, List.setIfInBounds_toArray, List.set_cons_zero, List.set_cons_succ, i64_w, i32_w, tm, z0, z1, z2, z3]
        rfl
      refine pure_ (i := 7) (N := some 18) (v := ?_) (a' := ?_) #[true, true, true, true, false, true, true, true, false, false, false, false, false, false, false, false, false, false, false, false, false, false, false, false, false, false, false] rfl rfl (by kernel_rfl) (fun _ _ _ h => h) (Or.inl ⟨by rfl, ?_⟩) ?_ ?_
      rotate_left
      · intro w'
        go_simp
        with_reducible rfl
      rotate_left
      · simp only [Act.put, List.setIfInBounds_toArray, List.set_cons_zero, List.set_cons_succ, i64_w, i32_w, tm, z0, z1, z2, z3]
        rfl
      refine pure_ (i := 8) (N := some 19) (v := ?_) (a' := ?_) #[true, true, true, true, false, true, true, true, true, false, false, false, false, false, false, false, false, false, false, false, false, false, false, false, false, false, false] rfl rfl (by kernel_rfl) (fun _ _ _ h => h) (Or.inl ⟨by rfl, ?_⟩) ?_ ?_
      rotate_left
      · intro w'
        go_simp
        with_reducible rfl
      rotate_left
      · simp only [Act.put, List.setIfInBounds_toArray, List.set_cons_zero, List.set_cons_succ, i64_w, i32_w, tm, z0, z1, z2, z3]
        rfl
      refine pure_ (i := 10) (N := some 21) (v := ?_) (a' := ?_) #[true, true, true, true, false, true, true, true, true, false, true, false, false, false, false, false, false, false, false, false, false, false, false, false, false, false, false] rfl rfl (by kernel_rfl) (fun _ _ _ h => h) (Or.inl ⟨by rfl, ?_⟩) ?_ ?_
      rotate_left
      · intro w'
        go_simp
        with_reducible rfl
      rotate_left
      · simp only [Act.put, List.setIfInBounds_toArray, List.set_cons_zero, List.set_cons_succ, i64_w, i32_w, tm, z0, z1, z2, z3]
        rfl
      refine pure_ (i := 11) (N := some 22) (v := ?_) (a' := ?_) #[true, true, true, true, false, true, true, true, true, false, true, true, false, false, false, false, false, false, false, false, false, false, false, false, false, false, false] rfl rfl (by kernel_rfl) (fun _ _ _ h => h) (Or.inl ⟨by rfl, ?_⟩) ?_ ?_
      rotate_left
      · intro w'
        go_simp
        with_reducible rfl
      rotate_left
      · simp only [Act.put, List.setIfInBounds_toArray, List.set_cons_zero, List.set_cons_succ, i64_w, i32_w, tm, z0, z1, z2, z3]
        rfl
      refine pure_ (i := 12) (N := some 23) (v := ?_) (a' := ?_) #[true, true, true, true, false, true, true, true, true, false, true, true, true, false, false, false, false, false, false, false, false, false, false, false, false, false, false] rfl rfl (by kernel_rfl) (fun _ _ _ h => h) (Or.inl ⟨by rfl, ?_⟩) ?_ ?_
      rotate_left
      · intro w'
        go_simp
        with_reducible rfl
      rotate_left
      · simp only [Act.put, List.setIfInBounds_toArray, List.set_cons_zero, List.set_cons_succ, i64_w, i32_w, tm, z0, z1, z2, z3]
        rfl
      refine pure_ (i := 13) (N := some 24) (v := ?_) (a' := ?_) #[true, true, true, true, false, true, true, true, true, false, true, true, true, true, false, false, false, false, false, false, false, false, false, false, false, false, false] rfl rfl (by kernel_rfl) (fun _ _ _ h => h) (Or.inl ⟨by rfl, ?_⟩) ?_ ?_
      rotate_left
      · intro w'
        go_simp
        with_reducible rfl
      rotate_left
      · simp only [Act.put, List.setIfInBounds_toArray, List.set_cons_zero, List.set_cons_succ, i64_w, i32_w, tm, z0, z1, z2, z3]
        rfl
      refine pure_ (i := 14) (N := some 25) (v := ?_) (a' := ?_) #[true, true, true, true, false, true, true, true, true, false, true, true, true, true, true, false, false, false, false, false, false, false, false, false, false, false, false] rfl rfl (by kernel_rfl) (fun _ _ _ h => h) (Or.inl ⟨by rfl, ?_⟩) ?_ ?_
      rotate_left
      · intro w'
        go_simp
        with_reducible rfl
      rotate_left
      · simp only [Act.put, List.setIfInBounds_toArray, List.set_cons_zero, List.set_cons_succ, i64_w, i32_w, tm, z0, z1, z2, z3]
        rfl
      refine pure_ (i := 23) (N := some 33) (v := ?_) (a' := ?_) #[true, true, true, true, false, true, true, true, true, false, true, true, true, true, true, false, false, false, false, false, false, false, false, true, false, false, false] rfl rfl (by kernel_rfl) (fun _ _ _ h => h) (Or.inl ⟨by rfl, ?_⟩) ?_ ?_
      rotate_left
      · intro w'
        go_simp
        with_reducible rfl
      rotate_left
      · simp only [Act.put, List.setIfInBounds_toArray, List.set_cons_zero, List.set_cons_succ, i64_w, i32_w, tm, z0, z1, z2, z3]
        rfl
      refine take_ (i := 4) (N := some 15) (v := ?_) (a' := ?_) #[true, true, true, true, true, true, true, true, true, false, true, true, true, true, true, false, false, false, false, false, false, false, false, true, false, false, false] rfl rfl (by kernel_rfl) (fun _ _ _ h => h) (Or.inl ⟨by rfl, ?_⟩) hHeld ?_ ?_
      rotate_left
      · rintro w' ⟨s0, s1, s2⟩
        have q14 : w'.cell? ⟨w.heap.size, 14, none⟩ = some (iv c0) := (bkCell s0 14).trans rfl
        go_simp
        with_reducible rfl
      rotate_left
      · simp only [Act.put, List.setIfInBounds_toArray, List.set_cons_zero, List.set_cons_succ, i64_w, i32_w, tm, z0, z1, z2, z3]
        rfl
      refine take_ (i := 9) (N := some 20) (v := ?_) (a' := ?_) #[true, true, true, true, true, true, true, true, true, true, true, true, true, true, true, false, false, false, false, false, false, false, false, true, false, false, false] rfl rfl (by kernel_rfl) (fun _ _ _ h => h) (Or.inl ⟨by rfl, ?_⟩) hHeld ?_ ?_
      rotate_left
      · rintro w' ⟨s0, s1, s2⟩
        have q0 : w'.cell? ⟨w.heap.size, 0, none⟩ = some (iv r0) := (bkCell s0 0).trans rfl
        go_simp
        with_reducible rfl
      rotate_left
      · simp only [Act.put, List.setIfInBounds_toArray, List.set_cons_zero, List.set_cons_succ, i64_w, i32_w, tm, z0, z1, z2, z3]
        rfl
      refine take_ (i := 15) (N := some 26) (v := ?_) (a' := ?_) #[true, true, true, true, true, true, true, true, true, true, true, true, true, true, true, true, false, false, false, false, false, false, false, true, false, false, false] rfl rfl (by kernel_rfl) (fun _ _ _ h => h) (Or.inl ⟨by rfl, ?_⟩) hHeld ?_ ?_
      rotate_left
      · rintro w' ⟨s0, s1, s2⟩
        have q1 : w'.cell? ⟨w.heap.size, 1, none⟩ = some (iv r1) := (bkCell s0 1).trans rfl
        go_simp
        with_reducible rfl
      rotate_left
      · simp only [Act.put, List.setIfInBounds_toArray, List.set_cons_zero, List.set_cons_succ, i64_w, i32_w, tm, z0, z1, z2, z3]
        rfl
      refine pure_ (i := 16) (N := some 27) (v := ?_) (a' := ?_) #[true, true, true, true, true, true, true, true, true, true, true, true, true, true, true, true, true, false, false, false, false, false, false, true, false, false, false] rfl rfl (by kernel_rfl) (fun _ _ _ h => h) (Or.inl ⟨by rfl, ?_⟩) ?_ ?_
      rotate_left
      · intro w'
        go_simp
        with_reducible rfl
      rotate_left
      · simp only [Act.put, List.setIfInBounds_toArray, List.set_cons_zero, List.set_cons_succ, i64_w, i32_w, tm, z0, z1, z2, z3]
        rfl
      refine pure_ (i := 17) (N := some 28) (v := ?_) (a' := ?_) #[true, true, true, true, true, true, true, true, true, true, true, true, true, true, true, true, true, true, false, false, false, false, false, true, false, false, false] rfl rfl (by kernel_rfl) (fun _ _ _ h => h) (Or.inl ⟨by rfl, ?_⟩) ?_ ?_
      rotate_left
      · intro w'
        go_simp
        with_reducible rfl
      rotate_left
      · simp only [Act.put, List.setIfInBounds_toArray, List.set_cons_zero, List.set_cons_succ, i64_w, i32_w, tm, z0, z1, z2, z3]
        rfl
      refine pure_ (i := 18) (N := some 29) (v := ?_) (a' := ?_) #[true, true, true, true, true, true, true, true, true, true, true, true, true, true, true, true, true, true, true, false, false, false, false, true, false, false, false] rfl rfl (by kernel_rfl) (fun _ _ _ h => h) (Or.inl ⟨by rfl, ?_⟩) ?_ ?_
      rotate_left
      · intro w'
        go_simp
        with_reducible rfl
      rotate_left
      · simp only [Act.put, List.setIfInBounds_toArray, List.set_cons_zero, List.set_cons_succ, i64_w, i32_w, tm, z0, z1, z2, z3]
        rfl
      refine one_ (i := 19) (N := some 30) #[true, true, true, true, true, true, true, true, true, true, true, true, true, true, true, true, true, true, true, true, false, false, false, true, false, false, false] rfl rfl (by kernel_rfl) (by decide) (fun K hK => ?_)
      refine goes_ Try.func59 (by kernel_rfl) rfl #[iv c0, iv (r0 + 256 * (r1 % 16))] (by rfl) rfl rfl (by simp only [List.map_toArray, List.map_cons, List.map_nil]; rfl) ?_
      with_reducible refine (count_per _ _ _ _ (by omega) (by omega) (by omega) (by omega) (by omega) (by omega)).mono ?_
      rintro e w4 ⟨rfl, rfl⟩
      refine ⟨_, rfl, ?_⟩
      refine hK.out _ _ ⟨hHeld.1, hHeld.2.1, hHeld.2.2⟩ (fun hHeld => ?_)
      clear hK K
      refine norm_ (a' := ?_) ?_ ?_
      rotate_left
      · show Act.put _ (some 30) _ = _
        simp only [Act.put, List.setIfInBounds_toArray, List.set_cons_zero, List.set_cons_succ, i64_w, i32_w, tm, z0, z1, z2, z3]
        rfl
      refine pure_ (i := 20) (N := some 10) (v := ?_) (a' := ?_) #[true, true, true, true, true, true, true, true, true, true, true, true, true, true, true, true, true, true, true, true, true, false, false, true, false, false, false] rfl rfl (by kernel_rfl) (fun _ _ _ h => h) (Or.inl ⟨by rfl, ?_⟩) ?_ ?_
      rotate_left
      · intro w'
        go_simp
        with_reducible rfl
      rotate_left
      · simp only [Act.put, List.setIfInBounds_toArray, List.set_cons_zero, List.set_cons_succ, i64_w, i32_w, tm, z0, z1, z2, z3]
        rfl
      refine pure_ (i := 21) (N := some 31) (v := ?_) (a' := ?_) #[true, true, true, true, true, true, true, true, true, true, true, true, true, true, true, true, true, true, true, true, true, true, false, true, false, false, false] rfl rfl (by kernel_rfl) (fun _ _ _ h => h) (Or.inl ⟨by rfl, ?_⟩) ?_ ?_
      rotate_left
      · intro w'
        go_simp
        with_reducible rfl
      rotate_left
      · simp only [Act.put, List.setIfInBounds_toArray, List.set_cons_zero, List.set_cons_succ, i64_w, i32_w, tm, z0, z1, z2, z3]
        rfl
      refine pure_ (i := 22) (N := some 32) (v := ?_) (a' := ?_) #[true, true, true, true, true, true, true, true, true, true, true, true, true, true, true, true, true, true, true, true, true, true, true, true, false, false, false] rfl rfl (by kernel_rfl) (fun _ _ _ h => h) (Or.inl ⟨by rfl, ?_⟩) ?_ ?_
      rotate_left
      · intro w'
        go_simp
        with_reducible rfl
      rotate_left
      · simp only [Act.put, List.setIfInBounds_toArray, List.set_cons_zero, List.set_cons_succ, i64_w, i32_w, tm, z0, z1, z2, z3]
        rfl
      refine pure_ (i := 24) (N := some 34) (v := ?_) (a' := ?_) #[true, true, true, true, true, true, true, true, true, true, true, true, true, true, true, true, true, true, true, true, true, true, true, true, true, false, false] rfl rfl (by kernel_rfl) (fun _ _ _ h => h) (Or.inl ⟨by rfl, ?_⟩) ?_ ?_
      rotate_left
      · intro w'
        go_simp
        with_reducible rfl
      rotate_left
      · simp only [Act.put, List.setIfInBounds_toArray, List.set_cons_zero, List.set_cons_succ, i64_w, i32_w, tm, z0, z1, z2, z3]
        rfl
      refine last_ (i := 25) (N := none) #[true, true, true, true, true, true, true, true, true, true, true, true, true, true, true, true, true, true, true, true, true, true, true, true, true, true, false] rfl rfl (by kernel_rfl) (by decide) (fun K hK => ?_)
      have g14 : wr.drew.cell? ⟨w.heap.size, 14, none⟩ = some (iv c0) := (bkCell hHeld.1 14).trans rfl
      have gf : wr.drew.frozen? ⟨w.heap.size, 14, none⟩ = false := bkFrozen hHeld.1 14
      obtain ⟨A1, Z1, D1⟩ := hHeld
      refine skip_ (w1 := ?_) (by rfl) rfl ?_ ?_
      rotate_left
      · go_simp
        rfl
      refine hK.out _ _ ?_
      clear hK K
      refine pure_ (i := 26) (N := some 3) (v := ?_) (a' := ?_) #[true, true, true, true, true, true, true, true, true, true, true, true, true, true, true, true, true, true, true, true, true, true, true, true, true, true, true] rfl rfl (by kernel_rfl) (fun _ _ _ h => h) (Or.inl ⟨by rfl, ?_⟩) ?_ ?_
      rotate_left
      · intro w'
        go_simp
        with_reducible rfl
      rotate_left
      · simp only [Act.put, List.setIfInBounds_toArray, List.set_cons_zero, List.set_cons_succ, i64_w, i32_w, tm, z0, z1, z2, z3]
        rfl
      refine done_ (by kernel_rfl) ?_
      clear tm z0 z1 z2 z3
      have g17 : wr.cell? ⟨w.heap.size, 17, none⟩ = some (iv b0) := (bkCell A0 17).trans rfl
      have gf17 : wr.frozen? ⟨w.heap.size, 17, none⟩ = false := bkFrozen A0 17
      go_wp2
      · have hdu : du c0 (per r0 r1) = true := by assumption
        exact ⟨⟨1, by omega, rfl, ⟨_, rfl⟩, bkPut (bkPut A0 14 _ rfl) 17 _ (by simp only [T.cs, T.tk, hdu, fl, if_true]; rfl), bkFar (bkFar hZ (by simp) _) (by simp) _, by first | exact (hD.setCell (by simp) _).setCell (by simp) _ | exact ((hD.setCell (by simp) _).setCell (by simp) _).drew⟩, by simp [intOf]⟩
      · have hdu : du c0 (per r0 r1) = false := by assumption
        exact ⟨⟨1, by omega, rfl, ⟨_, rfl⟩, bkPut A0 14 _ (by simp only [T.cs, T.tk, hdu, fl, Bool.false_eq_true, if_false]; rfl), bkFar hZ (by simp) _, by first | exact hD.setCell (by simp) _ | exact (hD.setCell (by simp) _).drew⟩, by simp [intOf]⟩
    · have A0 : wr.heap[w.heap.size]? = some (.cells #[iv r0, iv r1, iv r2, iv r3, iv r4, iv r5, iv r6, iv r7, iv r8, iv r9, iv r10, iv r11, iv r12, iv r13, iv (nx c0 (per r0 r1)), iv c1, iv c2, iv (fl b0 (du c0 (per r0 r1))), iv b1, iv b2, iv nc, iv n, iv ec, iv es] 35 (0, 0)) := hA
      clear hA
      go_wp2
      have z0 : wrap64 2 = 2 := by unfold wrap64; omega
      have z1 : wrap64 3 = 3 := by unfold wrap64; omega
      have tm : r3.tmod 16 = r3 % 16 := Int.tmod_eq_emod_of_nonneg or3
      have z2 : wrap64 (256 * (r3 % 16)) = 256 * (r3 % 16) := by unfold wrap64; omega
      have z3 : wrap64 (r2 + 256 * (r3 % 16)) = r2 + 256 * (r3 % 16) := by unfold wrap64; omega
      refine start_ (n := 27) (S := fun w' => w'.heap[w.heap.size]? = some (.cells #[iv r0, iv r1, iv r2, iv r3, iv r4, iv r5, iv r6, iv r7, iv r8, iv r9, iv r10, iv r11, iv r12, iv r13, iv (nx c0 (per r0 r1)), iv c1, iv c2, iv (fl b0 (du c0 (per r0 r1))), iv b1, iv b2, iv nc, iv n, iv ec, iv es] 35 (0, 0)) ∧ w'.heap[w.heap.size + 1]? = some (.cells #[iv 0, iv 0, iv 0, iv 0, iv 0, iv 0, iv 0, iv 0, iv 0, iv 0, iv 0, iv 0, iv 0, iv 0, iv 0, iv 0, iv 0, iv 0, iv 0, iv 0, iv 0, iv 0, iv 0, iv 0] 35 (0, 0)) ∧ Below w.heap.size w w') (ds := [25]) #[false, false, false, false, false, false, false, false, false, false, false, false, false, false, false, false, false, false, false, false, false, false, false, false, false, false, false] (by kernel_rfl) rfl rfl ⟨A0, hZ, hD.drew⟩ (fun hHeld => ?_)
      refine pure_ (i := 0) (N := some 11) (v := ?_) (a' := ?_) #[true, false, false, false, false, false, false, false, false, false, false, false, false, false, false, false, false, false, false, false, false, false, false, false, false, false, false] rfl rfl (by kernel_rfl) (fun _ _ _ h => h) (Or.inl ⟨by rfl, ?_⟩) ?_ ?_
      rotate_left
      · intro w'
        go_simp
        with_reducible rfl
      rotate_left
      · simp only [Act.put, List.setIfInBounds_toArray, List.set_cons_zero, List.set_cons_succ, i64_w, i32_w, tm, z0, z1, z2, z3]
        rfl
      refine pure_ (i := 1) (N := some 12) (v := ?_) (a' := ?_) #[true, true, false, false, false, false, false, false, false, false, false, false, false, false, false, false, false, false, false, false, false, false, false, false, false, false, false] rfl rfl (by kernel_rfl) (fun _ _ _ h => h) (Or.inl ⟨by rfl, ?_⟩) ?_ ?_
      rotate_left
      · intro w'
        go_simp
        with_reducible rfl
      rotate_left
      · simp only [Act.put, List.setIfInBounds_toArray, List.set_cons_zero, List.set_cons_succ, i64_w, i32_w, tm, z0, z1, z2, z3]
        rfl
      refine pure_ (i := 2) (N := some 13) (v := ?_) (a' := ?_) #[true, true, true, false, false, false, false, false, false, false, false, false, false, false, false, false, false, false, false, false, false, false, false, false, false, false, false] rfl rfl (by kernel_rfl) (fun _ _ _ h => h) (Or.inl ⟨by rfl, ?_⟩) ?_ ?_
      rotate_left
      · intro w'
        go_simp
        with_reducible rfl
      rotate_left
      · simp only [Act.put, List.setIfInBounds_toArray, List.set_cons_zero, List.set_cons_succ, i64_w, i32_w, tm, z0, z1, z2, z3]
        rfl
      refine pure_ (i := 3) (N := some 14) (v := ?_) (a' := ?_) #[true, true, true, true, false, false, false, false, false, false, false, false, false, false, false, false, false, false, false, false, false, false, false, false, false, false, false] rfl rfl (by kernel_rfl) (fun _ _ _ h => h) (Or.inl ⟨by rfl, ?_⟩) ?_ ?_
      rotate_left
      · intro w'
        go_simp
        with_reducible rfl
      rotate_left
      · simp only [Act.put, List.setIfInBounds_toArray, List.set_cons_zero, List.set_cons_succ, i64_w, i32_w, tm, z0, z1, z2, z3]
        rfl
      refine pure_ (i := 5) (N := some 16) (v := ?_) (a' := ?_) #[true, true, true, true, false, true, false, false, false, false, false, false, false, false, false, false, false, false, false, false, false, false, false, false, false, false, false] rfl rfl (by kernel_rfl) (fun _ _ _ h => h) (Or.inl ⟨by rfl, ?_⟩) ?_ ?_
      rotate_left
      · intro w'
        go_simp
        with_reducible rfl
      rotate_left
      · simp only [Act.put, List.setIfInBounds_toArray, List.set_cons_zero, List.set_cons_succ, i64_w, i32_w, tm, z0, z1, z2, z3]
        rfl
      refine pure_ (i := 6) (N := some 17) (v := ?_) (a' := ?_) #[true, true, true, true, false, true, true, false, false, false, false, false, false, false, false, false, false, false, false, false, false, false, false, false, false, false, false] rfl rfl (by kernel_rfl) (fun _ _ _ h => h) (Or.inl ⟨by rfl, ?_⟩) ?_ ?_
      rotate_left
      · intro w'
        go_simp
        with_reducible rfl
      rotate_left
      · simp only [Act.put, List.setIfInBounds_toArray, List.set_cons_zero, List.set_cons_succ, i64_w, i32_w, tm, z0, z1, z2, z3]
        rfl
      refine pure_ (i := 7) (N := some 18) (v := ?_) (a' := ?_) #[true, true, true, true, false, true, true, true, false, false, false, false, false, false, false, false, false, false, false, false, false, false, false, false, false, false, false] rfl rfl (by kernel_rfl) (fun _ _ _ h => h) (Or.inl ⟨by rfl, ?_⟩) ?_ ?_
      rotate_left
      · intro w'
        go_simp
        with_reducible rfl
      rotate_left
      · simp only [Act.put, List.setIfInBounds_toArray, List.set_cons_zero, List.set_cons_succ, i64_w, i32_w, tm, z0, z1, z2, z3]
        rfl
      refine pure_ (i := 8) (N := some 19) (v := ?_) (a' := ?_) #[true, true, true, true, false, true, true, true, true, false, false, false, false, false, false, false, false, false, false, false, false, false, false, false, false, false, false] rfl rfl (by kernel_rfl) (fun _ _ _ h => h) (Or.inl ⟨by rfl, ?_⟩) ?_ ?_
      rotate_left
      · intro w'
        go_simp
        with_reducible rfl
      rotate_left
      · simp only [Act.put, List.setIfInBounds_toArray, List.set_cons_zero, List.set_cons_succ, i64_w, i32_w, tm, z0, z1, z2, z3]
        rfl
      refine pure_ (i := 10) (N := some 21) (v := ?_) (a' := ?_) #[true, true, true, true, false, true, true, true, true, false, true, false, false, false, false, false, false, false, false, false, false, false, false, false, false, false, false] rfl rfl (by kernel_rfl) (fun _ _ _ h => h) (Or.inl ⟨by rfl, ?_⟩) ?_ ?_
      rotate_left
      · intro w'
        go_simp
        with_reducible rfl
      rotate_left
      · simp only [Act.put, List.setIfInBounds_toArray, List.set_cons_zero, List.set_cons_succ, i64_w, i32_w, tm, z0, z1, z2, z3]
        rfl
      refine pure_ (i := 11) (N := some 22) (v := ?_) (a' := ?_) #[true, true, true, true, false, true, true, true, true, false, true, true, false, false, false, false, false, false, false, false, false, false, false, false, false, false, false] rfl rfl (by kernel_rfl) (fun _ _ _ h => h) (Or.inl ⟨by rfl, ?_⟩) ?_ ?_
      rotate_left
      · intro w'
        go_simp
        with_reducible rfl
      rotate_left
      · simp only [Act.put, List.setIfInBounds_toArray, List.set_cons_zero, List.set_cons_succ, i64_w, i32_w, tm, z0, z1, z2, z3]
        rfl
      refine pure_ (i := 12) (N := some 23) (v := ?_) (a' := ?_) #[true, true, true, true, false, true, true, true, true, false, true, true, true, false, false, false, false, false, false, false, false, false, false, false, false, false, false] rfl rfl (by kernel_rfl) (fun _ _ _ h => h) (Or.inl ⟨by rfl, ?_⟩) ?_ ?_
      rotate_left
      · intro w'
        go_simp
        with_reducible rfl
      rotate_left
      · simp only [Act.put, List.setIfInBounds_toArray, List.set_cons_zero, List.set_cons_succ, i64_w, i32_w, tm, z0, z1, z2, z3]
        rfl
      refine pure_ (i := 13) (N := some 24) (v := ?_) (a' := ?_) #[true, true, true, true, false, true, true, true, true, false, true, true, true, true, false, false, false, false, false, false, false, false, false, false, false, false, false] rfl rfl (by kernel_rfl) (fun _ _ _ h => h) (Or.inl ⟨by rfl, ?_⟩) ?_ ?_
      rotate_left
      · intro w'
        go_simp
        with_reducible rfl
      rotate_left
      · simp only [Act.put, List.setIfInBounds_toArray, List.set_cons_zero, List.set_cons_succ, i64_w, i32_w, tm, z0, z1, z2, z3]
        rfl
      refine pure_ (i := 14) (N := some 25) (v := ?_) (a' := ?_) #[true, true, true, true, false, true, true, true, true, false, true, true, true, true, true, false, false, false, false, false, false, false, false, false, false, false, false] rfl rfl (by kernel_rfl) (fun _ _ _ h => h) (Or.inl ⟨by rfl, ?_⟩) ?_ ?_
      rotate_left
      · intro w'
        go_simp
        with_reducible rfl
      rotate_left
      · simp only [Act.put, List.setIfInBounds_toArray, List.set_cons_zero, List.set_cons_succ, i64_w, i32_w, tm, z0, z1, z2, z3]
        rfl
      refine pure_ (i := 23) (N := some 33) (v := ?_) (a' := ?_) #[true, true, true, true, false, true, true, true, true, false, true, true, true, true, true, false, false, false, false, false, false, false, false, true, false, false, false] rfl rfl (by kernel_rfl) (fun _ _ _ h => h) (Or.inl ⟨by rfl, ?_⟩) ?_ ?_
      rotate_left
      · intro w'
        go_simp
        with_reducible rfl
      rotate_left
      · simp only [Act.put, List.setIfInBounds_toArray, List.set_cons_zero, List.set_cons_succ, i64_w, i32_w, tm, z0, z1, z2, z3]
        rfl
      refine take_ (i := 4) (N := some 15) (v := ?_) (a' := ?_) #[true, true, true, true, true, true, true, true, true, false, true, true, true, true, true, false, false, false, false, false, false, false, false, true, false, false, false] rfl rfl (by kernel_rfl) (fun _ _ _ h => h) (Or.inl ⟨by rfl, ?_⟩) hHeld ?_ ?_
      rotate_left
      · rintro w' ⟨s0, s1, s2⟩
        have q15 : w'.cell? ⟨w.heap.size, 15, none⟩ = some (iv c1) := (bkCell s0 15).trans rfl
        go_simp
        with_reducible rfl
      rotate_left
      · simp only [Act.put, List.setIfInBounds_toArray, List.set_cons_zero, List.set_cons_succ, i64_w, i32_w, tm, z0, z1, z2, z3]
        rfl
      refine take_ (i := 9) (N := some 20) (v := ?_) (a' := ?_) #[true, true, true, true, true, true, true, true, true, true, true, true, true, true, true, false, false, false, false, false, false, false, false, true, false, false, false] rfl rfl (by kernel_rfl) (fun _ _ _ h => h) (Or.inl ⟨by rfl, ?_⟩) hHeld ?_ ?_
      rotate_left
      · rintro w' ⟨s0, s1, s2⟩
        have q2 : w'.cell? ⟨w.heap.size, 2, none⟩ = some (iv r2) := (bkCell s0 2).trans rfl
        go_simp
        with_reducible rfl
      rotate_left
      · simp only [Act.put, List.setIfInBounds_toArray, List.set_cons_zero, List.set_cons_succ, i64_w, i32_w, tm, z0, z1, z2, z3]
        rfl
      refine take_ (i := 15) (N := some 26) (v := ?_) (a' := ?_) #[true, true, true, true, true, true, true, true, true, true, true, true, true, true, true, true, false, false, false, false, false, false, false, true, false, false, false] rfl rfl (by kernel_rfl) (fun _ _ _ h => h) (Or.inl ⟨by rfl, ?_⟩) hHeld ?_ ?_
      rotate_left
      · rintro w' ⟨s0, s1, s2⟩
        have q3 : w'.cell? ⟨w.heap.size, 3, none⟩ = some (iv r3) := (bkCell s0 3).trans rfl
        go_simp
        with_reducible rfl
      rotate_left
      · simp only [Act.put, List.setIfInBounds_toArray, List.set_cons_zero, List.set_cons_succ, i64_w, i32_w, tm, z0, z1, z2, z3]
        rfl
      refine pure_ (i := 16) (N := some 27) (v := ?_) (a' := ?_) #[true, true, true, true, true, true, true, true, true, true, true, true, true, true, true, true, true, false, false, false, false, false, false, true, false, false, false] rfl rfl (by kernel_rfl) (fun _ _ _ h => h) (Or.inl ⟨by rfl, ?_⟩) ?_ ?_
      rotate_left
      · intro w'
        go_simp
        with_reducible rfl
      rotate_left
      · simp only [Act.put, List.setIfInBounds_toArray, List.set_cons_zero, List.set_cons_succ, i64_w, i32_w, tm, z0, z1, z2, z3]
        rfl
      refine pure_ (i := 17) (N := some 28) (v := ?_) (a' := ?_) #[true, true, true, true, true, true, true, true, true, true, true, true, true, true, true, true, true, true, false, false, false, false, false, true, false, false, false] rfl rfl (by kernel_rfl) (fun _ _ _ h => h) (Or.inl ⟨by rfl, ?_⟩) ?_ ?_
      rotate_left
      · intro w'
        go_simp
        with_reducible rfl
      rotate_left
      · simp only [Act.put, List.setIfInBounds_toArray, List.set_cons_zero, List.set_cons_succ, i64_w, i32_w, tm, z0, z1, z2, z3]
        rfl
      refine pure_ (i := 18) (N := some 29) (v := ?_) (a' := ?_) #[true, true, true, true, true, true, true, true, true, true, true, true, true, true, true, true, true, true, true, false, false, false, false, true, false, false, false] rfl rfl (by kernel_rfl) (fun _ _ _ h => h) (Or.inl ⟨by rfl, ?_⟩) ?_ ?_
      rotate_left
      · intro w'
        go_simp
        with_reducible rfl
      rotate_left
      · simp only [Act.put, List.setIfInBounds_toArray, List.set_cons_zero, List.set_cons_succ, i64_w, i32_w, tm, z0, z1, z2, z3]
        rfl
      refine one_ (i := 19) (N := some 30) #[true, true, true, true, true, true, true, true, true, true, true, true, true, true, true, true, true, true, true, true, false, false, false, true, false, false, false] rfl rfl (by kernel_rfl) (by decide) (fun K hK => ?_)
      refine goes_ Try.func59 (by kernel_rfl) rfl #[iv c1, iv (r2 + 256 * (r3 % 16))] (by rfl) rfl rfl (by simp only [List.map_toArray, List.map_cons, List.map_nil]; rfl) ?_
      with_reducible refine (count_per _ _ _ _ (by omega) (by omega) (by omega) (by omega) (by omega) (by omega)).mono ?_
      rintro e w4 ⟨rfl, rfl⟩
      refine ⟨_, rfl, ?_⟩
      refine hK.out _ _ ⟨hHeld.1, hHeld.2.1, hHeld.2.2⟩ (fun hHeld => ?_)
      clear hK K
      refine norm_ (a' := ?_) ?_ ?_
      rotate_left
      · show Act.put _ (some 30) _ = _
        simp only [Act.put, List.setIfInBounds_toArray, List.set_cons_zero, List.set_cons_succ, i64_w, i32_w, tm, z0, z1, z2, z3]
        rfl
      refine pure_ (i := 20) (N := some 10) (v := ?_) (a' := ?_) #[true, true, true, true, true, true, true, true, true, true, true, true, true, true, true, true, true, true, true, true, true, false, false, true, false, false, false] rfl rfl (by kernel_rfl) (fun _ _ _ h => h) (Or.inl ⟨by rfl, ?_⟩) ?_ ?_
      rotate_left
      · intro w'
        go_simp
        with_reducible rfl
      rotate_left
      · simp only [Act.put, List.setIfInBounds_toArray, List.set_cons_zero, List.set_cons_succ, i64_w, i32_w, tm, z0, z1, z2, z3]
        rfl
      refine pure_ (i := 21) (N := some 31) (v := ?_) (a' := ?_) #[true, true, true, true, true, true, true, true, true, true, true, true, true, true, true, true, true, true, true, true, true, true, false, true, false, false, false] rfl rfl (by kernel_rfl) (fun _ _ _ h => h) (Or.inl ⟨by rfl, ?_⟩) ?_ ?_
      rotate_left
      · intro w'
        go_simp
        with_reducible rfl
      rotate_left
      · simp only [Act.put, List.setIfInBounds_toArray, List.set_cons_zero, List.set_cons_succ, i64_w, i32_w, tm, z0, z1, z2, z3]
        rfl
      refine pure_ (i := 22) (N := some 32) (v := ?_) (a' := ?_) #[true, true, true, true, true, true, true, true, true, true, true, true, true, true, true, true, true, true, true, true, true, true, true, true, false, false, false] rfl rfl (by kernel_rfl) (fun _ _ _ h => h) (Or.inl ⟨by rfl, ?_⟩) ?_ ?_
      rotate_left
      · intro w'
        go_simp
        with_reducible rfl
      rotate_left
      · simp only [Act.put, List.setIfInBounds_toArray, List.set_cons_zero, List.set_cons_succ, i64_w, i32_w, tm, z0, z1, z2, z3]
        rfl
      refine pure_ (i := 24) (N := some 34) (v := ?_) (a' := ?_) #[true, true, true, true, true, true, true, true, true, true, true, true, true, true, true, true, true, true, true, true, true, true, true, true, true, false, false] rfl rfl (by kernel_rfl) (fun _ _ _ h => h) (Or.inl ⟨by rfl, ?_⟩) ?_ ?_
      rotate_left
      · intro w'
        go_simp
        with_reducible rfl
      rotate_left
      · simp only [Act.put, List.setIfInBounds_toArray, List.set_cons_zero, List.set_cons_succ, i64_w, i32_w, tm, z0, z1, z2, z3]
        rfl
      refine last_ (i := 25) (N := none) #[true, true, true, true, true, true, true, true, true, true, true, true, true, true, true, true, true, true, true, true, true, true, true, true, true, true, false] rfl rfl (by kernel_rfl) (by decide) (fun K hK => ?_)
      have g14 : wr.drew.cell? ⟨w.heap.size, 15, none⟩ = some (iv c1) := (bkCell hHeld.1 15).trans rfl
      have gf : wr.drew.frozen? ⟨w.heap.size, 15, none⟩ = false := bkFrozen hHeld.1 15
      obtain ⟨A1, Z1, D1⟩ := hHeld
      refine skip_ (w1 := ?_) (by rfl) rfl ?_ ?_
      rotate_left
      · go_simp
        rfl
      refine hK.out _ _ ?_
      clear hK K
      refine pure_ (i := 26) (N := some 3) (v := ?_) (a' := ?_) #[true, true, true, true, true, true, true, true, true, true, true, true, true, true, true, true, true, true, true, true, true, true, true, true, true, true, true] rfl rfl (by kernel_rfl) (fun _ _ _ h => h) (Or.inl ⟨by rfl, ?_⟩) ?_ ?_
      rotate_left
      · intro w'
        go_simp
        with_reducible rfl
      rotate_left
      · simp only [Act.put, List.setIfInBounds_toArray, List.set_cons_zero, List.set_cons_succ, i64_w, i32_w, tm, z0, z1, z2, z3]
        rfl
      refine done_ (by kernel_rfl) ?_
      clear tm z0 z1 z2 z3
      have g17 : wr.cell? ⟨w.heap.size, 18, none⟩ = some (iv b1) := (bkCell A0 18).trans rfl
      have gf17 : wr.frozen? ⟨w.heap.size, 18, none⟩ = false := bkFrozen A0 18
      go_wp2
      · have hdu : du c1 (per r2 r3) = true := by assumption
        exact ⟨⟨2, by omega, rfl, ⟨_, rfl⟩, bkPut (bkPut A0 15 _ rfl) 18 _ (by simp only [T.cs, T.tk, hdu, fl, if_true]; rfl), bkFar (bkFar hZ (by simp) _) (by simp) _, by first | exact (hD.setCell (by simp) _).setCell (by simp) _ | exact ((hD.setCell (by simp) _).setCell (by simp) _).drew⟩, by simp [intOf]⟩
      · have hdu : du c1 (per r2 r3) = false := by assumption
        exact ⟨⟨2, by omega, rfl, ⟨_, rfl⟩, bkPut A0 15 _ (by simp only [T.cs, T.tk, hdu, fl, Bool.false_eq_true, if_false]; rfl), bkFar hZ (by simp) _, by first | exact hD.setCell (by simp) _ | exact (hD.setCell (by simp) _).drew⟩, by simp [intOf]⟩
    · have A0 : wr.heap[w.heap.size]? = some (.cells #[iv r0, iv r1, iv r2, iv r3, iv r4, iv r5, iv r6, iv r7, iv r8, iv r9, iv r10, iv r11, iv r12, iv r13, iv (nx c0 (per r0 r1)), iv (nx c1 (per r2 r3)), iv c2, iv (fl b0 (du c0 (per r0 r1))), iv (fl b1 (du c1 (per r2 r3))), iv b2, iv nc, iv n, iv ec, iv es] 35 (0, 0)) := hA
      clear hA
      go_wp2
      have z0 : wrap64 4 = 4 := by unfold wrap64; omega
      have z1 : wrap64 5 = 5 := by unfold wrap64; omega
      have tm : r5.tmod 16 = r5 % 16 := Int.tmod_eq_emod_of_nonneg or5
      have z2 : wrap64 (256 * (r5 % 16)) = 256 * (r5 % 16) := by unfold wrap64; omega
      have z3 : wrap64 (r4 + 256 * (r5 % 16)) = r4 + 256 * (r5 % 16) := by unfold wrap64; omega
      refine start_ (n := 27) (S := fun w' => w'.heap[w.heap.size]? = some (.cells #[iv r0, iv r1, iv r2, iv r3, iv r4, iv r5, iv r6, iv r7, iv r8, iv r9, iv r10, iv r11, iv r12, iv r13, iv (nx c0 (per r0 r1)), iv (nx c1 (per r2 r3)), iv c2, iv (fl b0 (du c0 (per r0 r1))), iv (fl b1 (du c1 (per r2 r3))), iv b2, iv nc, iv n, iv ec, iv es] 35 (0, 0)) ∧ w'.heap[w.heap.size + 1]? = some (.cells #[iv 0, iv 0, iv 0, iv 0, iv 0, iv 0, iv 0, iv 0, iv 0, iv 0, iv 0, iv 0, iv 0, iv 0, iv 0, iv 0, iv 0, iv 0, iv 0, iv 0, iv 0, iv 0, iv 0, iv 0] 35 (0, 0)) ∧ Below w.heap.size w w') (ds := [25]) #[false, false, false, false, false, false, false, false, false, false, false, false, false, false, false, false, false, false, false, false, false, false, false, false, false, false, false] (by kernel_rfl) rfl rfl ⟨A0, hZ, hD.drew⟩ (fun hHeld => ?_)
      refine pure_ (i := 0) (N := some 11) (v := ?_) (a' := ?_) #[true, false, false, false, false, false, false, false, false, false, false, false, false, false, false, false, false, false, false, false, false, false, false, false, false, false, false] rfl rfl (by kernel_rfl) (fun _ _ _ h => h) (Or.inl ⟨by rfl, ?_⟩) ?_ ?_
      rotate_left
      · intro w'
        go_simp
        with_reducible rfl
      rotate_left
      · simp only [Act.put, List.setIfInBounds_toArray, List.set_cons_zero, List.set_cons_succ, i64_w, i32_w, tm, z0, z1, z2, z3]
        rfl
      refine pure_ (i := 1) (N := some 12) (v := ?_) (a' := ?_) #[true, true, false, false, false, false, false, false, false, false, false, false, false, false, false, false, false, false, false, false, false, false, false, false, false, false, false] rfl rfl (by kernel_rfl) (fun _ _ _ h => h) (Or.inl ⟨by rfl, ?_⟩) ?_ ?_
      rotate_left
      · intro w'
        go_simp
        with_reducible rfl
      rotate_left
      · simp only [Act.put, List.setIfInBounds_toArray, List.set_cons_zero, List.set_cons_succ, i64_w, i32_w, tm, z0, z1, z2, z3]
        rfl
      refine pure_ (i := 2) (N := some 13) (v := ?_) (a' := ?_) #[true, true, true, false, false, false, false, false, false, false, false, false, false, false, false, false, false, false, false, false, false, false, false, false, false, false, false] rfl rfl (by kernel_rfl) (fun _ _ _ h => h) (Or.inl ⟨by rfl, ?_⟩) ?_ ?_
      rotate_left
      · intro w'
        go_simp
        with_reducible rfl
      rotate_left
      · simp only [Act.put, List.setIfInBounds_toArray, List.set_cons_zero, List.set_cons_succ, i64_w, i32_w, tm, z0, z1, z2, z3]
        rfl
      refine pure_ (i := 3) (N := some 14) (v := ?_) (a' := ?_) #[true, true, true, true, false, false, false, false, false, false, false, false, false, false, false, false, false, false, false, false, false, false, false, false, false, false, false] rfl rfl (by kernel_rfl) (fun _ _ _ h => h) (Or.inl ⟨by rfl, ?_⟩) ?_ ?_
      rotate_left
      · intro w'
        go_simp
        with_reducible rfl
      rotate_left
      · simp only [Act.put, List.setIfInBounds_toArray, List.set_cons_zero, List.set_cons_succ, i64_w, i32_w, tm, z0, z1, z2, z3]
        rfl
      refine pure_ (i := 5) (N := some 16) (v := ?_) (a' := ?_) #[true, true, true, true, false, true, false, false, false, false, false, false, false, false, false, false, false, false, false, false, false, false, false, false, false, false, false] rfl rfl (by kernel_rfl) (fun _ _ _ h => h) (Or.inl ⟨by rfl, ?_⟩) ?_ ?_
      rotate_left
      · intro w'
        go_simp
        with_reducible rfl
      rotate_left
      · simp only [Act.put, List.setIfInBounds_toArray, List.set_cons_zero, List.set_cons_succ, i64_w, i32_w, tm, z0, z1, z2, z3]
        rfl
      refine pure_ (i := 6) (N := some 17) (v := ?_) (a' := ?_) #[true, true, true, true, false, true, true, false, false, false, false, false, false, false, false, false, false, false, false, false, false, false, false, false, false, false, false] rfl rfl (by kernel_rfl) (fun _ _ _ h => h) (Or.inl ⟨by rfl, ?_⟩) ?_ ?_
      rotate_left
      · intro w'
        go_simp
        with_reducible rfl
      rotate_left
      · simp only [Act.put, List.setIfInBounds_toArray, List.set_cons_zero, List.set_cons_succ, i64_w, i32_w, tm, z0, z1, z2, z3]
        rfl
      refine pure_ (i := 7) (N := some 18) (v := ?_) (a' := ?_) #[true, true, true, true, false, true, true, true, false, false, false, false, false, false, false, false, false, false, false, false, false, false, false, false, false, false, false] rfl rfl (by kernel_rfl) (fun _ _ _ h => h) (Or.inl ⟨by rfl, ?_⟩) ?_ ?_
      rotate_left
      · intro w'
        go_simp
        with_reducible rfl
      rotate_left
      · simp only [Act.put, List.setIfInBounds_toArray, List.set_cons_zero, List.set_cons_succ, i64_w, i32_w, tm, z0, z1, z2, z3]
        rfl
      refine pure_ (i := 8) (N := some 19) (v := ?_) (a' := ?_) #[true, true, true, true, false, true, true, true, true, false, false, false, false, false, false, false, false, false, false, false, false, false, false, false, false, false, false] rfl rfl (by kernel_rfl) (fun _ _ _ h => h) (Or.inl ⟨by rfl, ?_⟩) ?_ ?_
      rotate_left
      · intro w'
        go_simp
        with_reducible rfl
      rotate_left
      · simp only [Act.put, List.setIfInBounds_toArray, List.set_cons_zero, List.set_cons_succ, i64_w, i32_w, tm, z0, z1, z2, z3]
        rfl
      refine pure_ (i := 10) (N := some 21) (v := ?_) (a' := ?_) #[true, true, true, true, false, true, true, true, true, false, true, false, false, false, false, false, false, false, false, false, false, false, false, false, false, false, false] rfl rfl (by kernel_rfl) (fun _ _ _ h => h) (Or.inl ⟨by rfl, ?_⟩) ?_ ?_
      rotate_left
      · intro w'
        go_simp
        with_reducible rfl
      rotate_left
      · simp only [Act.put, List.setIfInBounds_toArray, List.set_cons_zero, List.set_cons_succ, i64_w, i32_w, tm, z0, z1, z2, z3]
        rfl
      refine pure_ (i := 11) (N := some 22) (v := ?_) (a' := ?_) #[true, true, true, true, false, true, true, true, true, false, true, true, false, false, false, false, false, false, false, false, false, false, false, false, false, false, false] rfl rfl (by kernel_rfl) (fun _ _ _ h => h) (Or.inl ⟨by rfl, ?_⟩) ?_ ?_
      rotate_left
      · intro w'
        go_simp
        with_reducible rfl
      rotate_left
      · simp only [Act.put, List.setIfInBounds_toArray, List.set_cons_zero, List.set_cons_succ, i64_w, i32_w, tm, z0, z1, z2, z3]
        rfl
      refine pure_ (i := 12) (N := some 23) (v := ?_) (a' := ?_) #[true, true, true, true, false, true, true, true, true, false, true, true, true, false, false, false, false, false, false, false, false, false, false, false, false, false, false] rfl rfl (by kernel_rfl) (fun _ _ _ h => h) (Or.inl ⟨by rfl, ?_⟩) ?_ ?_
      rotate_left
      · intro w'
        go_simp
        with_reducible rfl
      rotate_left
      · simp only [Act.put, List.setIfInBounds_toArray, List.set_cons_zero, List.set_cons_succ, i64_w, i32_w, tm, z0, z1, z2, z3]
        rfl
      refine pure_ (i := 13) (N := some 24) (v := ?_) (a' := ?_) #[true, true, true, true, false, true, true, true, true, false, true, true, true, true, false, false, false, false, false, false, false, false, false, false, false, false, false] rfl rfl (by kernel_rfl) (fun _ _ _ h => h) (Or.inl ⟨by rfl, ?_⟩) ?_ ?_
      rotate_left
      · intro w'
        go_simp
        with_reducible rfl
      rotate_left
      · simp only [Act.put, List.setIfInBounds_toArray, List.set_cons_zero, List.set_cons_succ, i64_w, i32_w, tm, z0, z1, z2, z3]
        rfl
      refine pure_ (i := 14) (N := some 25) (v := ?_) (a' := ?_) #[true, true, true, true, false, true, true, true, true, false, true, true, true, true, true, false, false, false, false, false, false, false, false, false, false, false, false] rfl rfl (by kernel_rfl) (fun _ _ _ h => h) (Or.inl ⟨by rfl, ?_⟩) ?_ ?_
      rotate_left
      · intro w'
        go_simp
        with_reducible rfl
      rotate_left
      · simp only [Act.put, List.setIfInBounds_toArray, List.set_cons_zero, List.set_cons_succ, i64_w, i32_w, tm, z0, z1, z2, z3]
        rfl
      refine pure_ (i := 23) (N := some 33) (v := ?_) (a' := ?_) #[true, true, true, true, false, true, true, true, true, false, true, true, true, true, true, false, false, false, false, false, false, false, false, true, false, false, false] rfl rfl (by kernel_rfl) (fun _ _ _ h => h) (Or.inl ⟨by rfl, ?_⟩) ?_ ?_
      rotate_left
      · intro w'
        go_simp
        with_reducible rfl
      rotate_left
      · simp only [Act.put, List.setIfInBounds_toArray, List.set_cons_zero, List.set_cons_succ, i64_w, i32_w, tm, z0, z1, z2, z3]
        rfl
      refine take_ (i := 4) (N := some 15) (v := ?_) (a' := ?_) #[true, true, true, true, true, true, true, true, true, false, true, true, true, true, true, false, false, false, false, false, false, false, false, true, false, false, false] rfl rfl (by kernel_rfl) (fun _ _ _ h => h) (Or.inl ⟨by rfl, ?_⟩) hHeld ?_ ?_
      rotate_left
      · rintro w' ⟨s0, s1, s2⟩
        have q16 : w'.cell? ⟨w.heap.size, 16, none⟩ = some (iv c2) := (bkCell s0 16).trans rfl
        go_simp
        with_reducible rfl
      rotate_left
      · simp only [Act.put, List.setIfInBounds_toArray, List.set_cons_zero, List.set_cons_succ, i64_w, i32_w, tm, z0, z1, z2, z3]
        rfl
      refine take_ (i := 9) (N := some 20) (v := ?_) (a' := ?_) #[true, true, true, true, true, true, true, true, true, true, true, true, true, true, true, false, false, false, false, false, false, false, false, true, false, false, false] rfl rfl (by kernel_rfl) (fun _ _ _ h => h) (Or.inl ⟨by rfl, ?_⟩) hHeld ?_ ?_
      rotate_left
      · rintro w' ⟨s0, s1, s2⟩
        have q4 : w'.cell? ⟨w.heap.size, 4, none⟩ = some (iv r4) := (bkCell s0 4).trans rfl
        go_simp
        with_reducible rfl
      rotate_left
      · simp only [Act.put, List.setIfInBounds_toArray, List.set_cons_zero, List.set_cons_succ, i64_w, i32_w, tm, z0, z1, z2, z3]
        rfl
      refine take_ (i := 15) (N := some 26) (v := ?_) (a' := ?_) #[true, true, true, true, true, true, true, true, true, true, true, true, true, true, true, true, false, false, false, false, false, false, false, true, false, false, false] rfl rfl (by kernel_rfl) (fun _ _ _ h => h) (Or.inl ⟨by rfl, ?_⟩) hHeld ?_ ?_
      rotate_left
      · rintro w' ⟨s0, s1, s2⟩
        have q5 : w'.cell? ⟨w.heap.size, 5, none⟩ = some (iv r5) := (bkCell s0 5).trans rfl
        go_simp
        with_reducible rfl
      rotate_left
      · simp only [Act.put, List.setIfInBounds_toArray, List.set_cons_zero, List.set_cons_succ, i64_w, i32_w, tm, z0, z1, z2, z3]
        rfl
      refine pure_ (i := 16) (N := some 27) (v := ?_) (a' := ?_) #[true, true, true, true, true, true, true, true, true, true, true, true, true, true, true, true, true, false, false, false, false, false, false, true, false, false, false] rfl rfl (by kernel_rfl) (fun _ _ _ h => h) (Or.inl ⟨by rfl, ?_⟩) ?_ ?_
      rotate_left
      · intro w'
        go_simp
        with_reducible rfl
      rotate_left
      · simp only [Act.put, List.setIfInBounds_toArray, List.set_cons_zero, List.set_cons_succ, i64_w, i32_w, tm, z0, z1, z2, z3]
        rfl
      refine pure_ (i := 17) (N := some 28) (v := ?_) (a' := ?_) #[true, true, true, true, true, true, true, true, true, true, true, true, true, true, true, true, true, true, false, false, false, false, false, true, false, false, false] rfl rfl (by kernel_rfl) (fun _ _ _ h => h) (Or.inl ⟨by rfl, ?_⟩) ?_ ?_
      rotate_left
      · intro w'
        go_simp
        with_reducible rfl
      rotate_left
      · simp only [Act.put, List.setIfInBounds_toArray, List.set_cons_zero, List.set_cons_succ, i64_w, i32_w, tm, z0, z1, z2, z3]
        rfl
      refine pure_ (i := 18) (N := some 29) (v := ?_) (a' := ?_) #[true, true, true, true, true, true, true, true, true, true, true, true, true, true, true, true, true, true, true, false, false, false, false, true, false, false, false] rfl rfl (by kernel_rfl) (fun _ _ _ h => h) (Or.inl ⟨by rfl, ?_⟩) ?_ ?_
      rotate_left
      · intro w'
        go_simp
        with_reducible rfl
      rotate_left
      · simp only [Act.put, List.setIfInBounds_toArray, List.set_cons_zero, List.set_cons_succ, i64_w, i32_w, tm, z0, z1, z2, z3]
        rfl
      refine one_ (i := 19) (N := some 30) #[true, true, true, true, true, true, true, true, true, true, true, true, true, true, true, true, true, true, true, true, false, false, false, true, false, false, false] rfl rfl (by kernel_rfl) (by decide) (fun K hK => ?_)
      refine goes_ Try.func59 (by kernel_rfl) rfl #[iv c2, iv (r4 + 256 * (r5 % 16))] (by rfl) rfl rfl (by simp only [List.map_toArray, List.map_cons, List.map_nil]; rfl) ?_
      with_reducible refine (count_per _ _ _ _ (by omega) (by omega) (by omega) (by omega) (by omega) (by omega)).mono ?_
      rintro e w4 ⟨rfl, rfl⟩
      refine ⟨_, rfl, ?_⟩
      refine hK.out _ _ ⟨hHeld.1, hHeld.2.1, hHeld.2.2⟩ (fun hHeld => ?_)
      clear hK K
      refine norm_ (a' := ?_) ?_ ?_
      rotate_left
      · show Act.put _ (some 30) _ = _
        simp only [Act.put, List.setIfInBounds_toArray, List.set_cons_zero, List.set_cons_succ, i64_w, i32_w, tm, z0, z1, z2, z3]
        rfl
      refine pure_ (i := 20) (N := some 10) (v := ?_) (a' := ?_) #[true, true, true, true, true, true, true, true, true, true, true, true, true, true, true, true, true, true, true, true, true, false, false, true, false, false, false] rfl rfl (by kernel_rfl) (fun _ _ _ h => h) (Or.inl ⟨by rfl, ?_⟩) ?_ ?_
      rotate_left
      · intro w'
        go_simp
        with_reducible rfl
      rotate_left
      · simp only [Act.put, List.setIfInBounds_toArray, List.set_cons_zero, List.set_cons_succ, i64_w, i32_w, tm, z0, z1, z2, z3]
        rfl
      refine pure_ (i := 21) (N := some 31) (v := ?_) (a' := ?_) #[true, true, true, true, true, true, true, true, true, true, true, true, true, true, true, true, true, true, true, true, true, true, false, true, false, false, false] rfl rfl (by kernel_rfl) (fun _ _ _ h => h) (Or.inl ⟨by rfl, ?_⟩) ?_ ?_
      rotate_left
      · intro w'
        go_simp
        with_reducible rfl
      rotate_left
      · simp only [Act.put, List.setIfInBounds_toArray, List.set_cons_zero, List.set_cons_succ, i64_w, i32_w, tm, z0, z1, z2, z3]
        rfl
      refine pure_ (i := 22) (N := some 32) (v := ?_) (a' := ?_) #[true, true, true, true, true, true, true, true, true, true, true, true, true, true, true, true, true, true, true, true, true, true, true, true, false, false, false] rfl rfl (by kernel_rfl) (fun _ _ _ h => h) (Or.inl ⟨by rfl, ?_⟩) ?_ ?_
      rotate_left
      · intro w'
        go_simp
        with_reducible rfl
      rotate_left
      · simp only [Act.put, List.setIfInBounds_toArray, List.set_cons_zero, List.set_cons_succ, i64_w, i32_w, tm, z0, z1, z2, z3]
        rfl
      refine pure_ (i := 24) (N := some 34) (v := ?_) (a' := ?_) #[true, true, true, true, true, true, true, true, true, true, true, true, true, true, true, true, true, true, true, true, true, true, true, true, true, false, false] rfl rfl (by kernel_rfl) (fun _ _ _ h => h) (Or.inl ⟨by rfl, ?_⟩) ?_ ?_
      rotate_left
      · intro w'
        go_simp
        with_reducible rfl
      rotate_left
      · simp only [Act.put, List.setIfInBounds_toArray, List.set_cons_zero, List.set_cons_succ, i64_w, i32_w, tm, z0, z1, z2, z3]
        rfl
      refine last_ (i := 25) (N := none) #[true, true, true, true, true, true, true, true, true, true, true, true, true, true, true, true, true, true, true, true, true, true, true, true, true, true, false] rfl rfl (by kernel_rfl) (by decide) (fun K hK => ?_)
      have g14 : wr.drew.cell? ⟨w.heap.size, 16, none⟩ = some (iv c2) := (bkCell hHeld.1 16).trans rfl
      have gf : wr.drew.frozen? ⟨w.heap.size, 16, none⟩ = false := bkFrozen hHeld.1 16
      obtain ⟨A1, Z1, D1⟩ := hHeld
      refine skip_ (w1 := ?_) (by rfl) rfl ?_ ?_
      rotate_left
      · go_simp
        rfl
      refine hK.out _ _ ?_
      clear hK K
      refine pure_ (i := 26) (N := some 3) (v := ?_) (a' := ?_) #[true, true, true, true, true, true, true, true, true, true, true, true, true, true, true, true, true, true, true, true, true, true, true, true, true, true, true] rfl rfl (by kernel_rfl) (fun _ _ _ h => h) (Or.inl ⟨by rfl, ?_⟩) ?_ ?_
      rotate_left
      · intro w'
        go_simp
        with_reducible rfl
      rotate_left
      · simp only [Act.put, List.setIfInBounds_toArray, List.set_cons_zero, List.set_cons_succ, i64_w, i32_w, tm, z0, z1, z2, z3]
        rfl
      refine done_ (by kernel_rfl) ?_
      clear tm z0 z1 z2 z3
      have g17 : wr.cell? ⟨w.heap.size, 19, none⟩ = some (iv b2) := (bkCell A0 19).trans rfl
      have gf17 : wr.frozen? ⟨w.heap.size, 19, none⟩ = false := bkFrozen A0 19
      go_wp2
      · have hdu : du c2 (per r4 r5) = true := by assumption
        exact ⟨⟨3, by omega, rfl, ⟨_, rfl⟩, bkPut (bkPut A0 16 _ rfl) 19 _ (by simp only [T.cs, T.tk, hdu, fl, if_true]; rfl), bkFar (bkFar hZ (by simp) _) (by simp) _, by first | exact (hD.setCell (by simp) _).setCell (by simp) _ | exact ((hD.setCell (by simp) _).setCell (by simp) _).drew⟩, by simp [intOf]⟩
      · have hdu : du c2 (per r4 r5) = false := by assumption
        exact ⟨⟨3, by omega, rfl, ⟨_, rfl⟩, bkPut A0 16 _ (by simp only [T.cs, T.tk, hdu, fl, Bool.false_eq_true, if_false]; rfl), bkFar hZ (by simp) _, by first | exact hD.setCell (by simp) _ | exact (hD.setCell (by simp) _).drew⟩, by simp [intOf]⟩
    · rw [← H3.out] at hA
      clear H3
      obtain ⟨xr0, xr1, xr2, xr3, xr4, xr5, xr6, xr7, xr8, xr9, xr10, xr11, xr12, xr13, xc0, xc1, xc2, xb0, xb1, xb2, xnc, xn, xec, xes⟩ := t3
      obtain ⟨⟨xor0, xpr0⟩, ⟨xor1, xpr1⟩, ⟨xor2, xpr2⟩, ⟨xor3, xpr3⟩, ⟨xor4, xpr4⟩, ⟨xor5, xpr5⟩, ⟨xor6, xpr6⟩, ⟨xor7, xpr7⟩, ⟨xor8, xpr8⟩, ⟨xor9, xpr9⟩, ⟨xor10, xpr10⟩, ⟨xor11, xpr11⟩, ⟨xor12, xpr12⟩, ⟨xor13, xpr13⟩, ⟨xoc0, xpc0⟩, ⟨xoc1, xpc1⟩, ⟨xoc2, xpc2⟩, ⟨xob0, xpb0⟩, ⟨xob1, xpb1⟩, ⟨xob2, xpb2⟩, ⟨xonc, xpnc⟩, ⟨xon, xpn⟩, ⟨xoec, xpec⟩, ⟨xoes, xpes⟩⟩ := hok
      simp only at xor0 xpr0 xor1 xpr1 xor2 xpr2 xor3 xpr3 xor4 xpr4 xor5 xpr5 xor6 xpr6 xor7 xpr7 xor8 xpr8 xor9 xpr9 xor10 xpr10 xor11 xpr11 xor12 xpr12 xor13 xpr13 xoc0 xpc0 xoc1 xpc1 xoc2 xpc2 xob0 xpb0 xob1 xpb1 xob2 xpb2 xonc xpnc xon xpn xoec xpec xoes xpes
      have A0 : wr.heap[w.heap.size]? = some (.cells #[iv xr0, iv xr1, iv xr2, iv xr3, iv xr4, iv xr5, iv xr6, iv xr7, iv xr8, iv xr9, iv xr10, iv xr11, iv xr12, iv xr13, iv xc0, iv xc1, iv xc2, iv xb0, iv xb1, iv xb2, iv xnc, iv xn, iv xec, iv xes] 35 (0, 0)) := hA
      clear hA
      have g6 : wr.cell? ⟨w.heap.size, 6, none⟩ = some (iv xr6) := (bkCell A0 6).trans rfl
      have g11 : wr.cell? ⟨w.heap.size, 11, none⟩ = some (iv xr11) := (bkCell A0 11).trans rfl
      have g12 : wr.cell? ⟨w.heap.size, 12, none⟩ = some (iv xr12) := (bkCell A0 12).trans rfl
      have g13 : wr.cell? ⟨w.heap.size, 13, none⟩ = some (iv xr13) := (bkCell A0 13).trans rfl
      have g20 : wr.cell? ⟨w.heap.size, 20, none⟩ = some (iv xnc) := (bkCell A0 20).trans rfl
      have g21 : wr.cell? ⟨w.heap.size, 21, none⟩ = some (iv xn) := (bkCell A0 21).trans rfl
      have g22 : wr.cell? ⟨w.heap.size, 22, none⟩ = some (iv xec) := (bkCell A0 22).trans rfl
      have g23 : wr.cell? ⟨w.heap.size, 23, none⟩ = some (iv xes) := (bkCell A0 23).trans rfl
      have f20 := bkFrozen A0 20
      have f21 := bkFrozen A0 21
      have f22 := bkFrozen A0 22
      have f23 := bkFrozen A0 23
      obtain ⟨hb0, hb1⟩ := i64_xor_bd xn (xn / 8) (by omega) (by omega) (by omega) (by omega)
      have hbe := i64_and1 (bits .xor .i64 xn (xn / 8))
      clear or0 pr0 or1 pr1 or2 pr2 or3 pr3 or4 pr4 or5 pr5 or6 pr6 or7 pr7 or8 pr8 or9 pr9 or10 pr10 or11 pr11 or12 pr12 or13 pr13 oc0 pc0 oc1 pc1 oc2 pc2 ob0 pb0 ob1 pb1 ob2 pb2 onc pnc on pn oec pec oes pes u0 v0 u1 v1 u2 v2 xor0 xpr0 xor1 xpr1 xor2 xpr2 xor3 xpr3 xor4 xpr4 xor5 xpr5 xor7 xpr7 xor8 xpr8 xor9 xpr9 xor10 xpr10 xoc0 xpc0 xoc1 xpc1 xoc2 xpc2 xob0 xpb0 xob1 xpb1 xob2 xpb2
      by_cases h1 : 1 < xr6 % 32
      · have e1 : mx1 (xr6 % 32) = (xr6 % 32) := if_pos h1
        have e1H := Lib.hid e1
        clear e1
        go_upto_region 15 with (first | (go_at_call 59; (first | (with_reducible refine (count_any _ _ _ xoec xpec (by omega) (by omega)).mono ?_) | (with_reducible refine (count_pos _ _ _ (by omega) (by omega) (by omega) (by omega)).mono ?_)); rintro e w3 ⟨rfl, rfl⟩) | (go_at_call 39; (with_reducible refine (rfollows_any _ _ _ (by omega) (by omega) (by omega) (by omega)).mono ?_); rintro e w3 ⟨rfl, rfl⟩))
        · have d1 : du xnc (2 * (xr6 % 32)) = true := by assumption
          have d2 : du xec (mx1 (xr11 + 256 * xr12)) = true := by assumption
          have A9 : (World.setCell (World.setCell (World.setCell (World.setCell wr ⟨w.heap.size, 20, none⟩ (iv (nx xnc (2 * (xr6 % 32))))) ⟨w.heap.size, 21, none⟩ (iv (xn / 2 + 65536 * (bits .xor .i64 xn (xn / 8) % 2)))) ⟨w.heap.size, 22, none⟩ (iv (nx xec (mx1 (xr11 + 256 * xr12))))) ⟨w.heap.size, 23, none⟩ (iv (fol (xr13 % 16) xes))).heap[w.heap.size]? = some (.cells #[iv xr0, iv xr1, iv xr2, iv xr3, iv xr4, iv xr5, iv xr6, iv xr7, iv xr8, iv xr9, iv xr10, iv xr11, iv xr12, iv xr13, iv xc0, iv xc1, iv xc2, iv xb0, iv xb1, iv xb2, iv (nx xnc (2 * (xr6 % 32))), iv (xn / 2 + 65536 * (bits .xor .i64 xn (xn / 8) % 2)), iv (nx xec (mx1 (xr11 + 256 * xr12))), iv (fol (xr13 % 16) xes)] 35 (0, 0)) := (bkPut (bkPut (bkPut (bkPut A0 20 (iv (nx xnc (2 * (xr6 % 32)))) rfl) 21 (iv (xn / 2 + 65536 * (bits .xor .i64 xn (xn / 8) % 2))) rfl) 22 (iv (nx xec (mx1 (xr11 + 256 * xr12)))) rfl) 23 (iv (fol (xr13 % 16) xes)) rfl)
          have Z9 : (World.setCell (World.setCell (World.setCell (World.setCell wr ⟨w.heap.size, 20, none⟩ (iv (nx xnc (2 * (xr6 % 32))))) ⟨w.heap.size, 21, none⟩ (iv (xn / 2 + 65536 * (bits .xor .i64 xn (xn / 8) % 2)))) ⟨w.heap.size, 22, none⟩ (iv (nx xec (mx1 (xr11 + 256 * xr12))))) ⟨w.heap.size, 23, none⟩ (iv (fol (xr13 % 16) xes))).heap[w.heap.size + 1]? = some (.cells #[iv 0, iv 0, iv 0, iv 0, iv 0, iv 0, iv 0, iv 0, iv 0, iv 0, iv 0, iv 0, iv 0, iv 0, iv 0, iv 0, iv 0, iv 0, iv 0, iv 0, iv 0, iv 0, iv 0, iv 0] 35 (0, 0)) := bkFar (bkFar (bkFar (bkFar hZ (by simp) _) (by simp) _) (by simp) _) (by simp) _
          have D9 : Below w.heap.size w (World.setCell (World.setCell (World.setCell (World.setCell wr ⟨w.heap.size, 20, none⟩ (iv (nx xnc (2 * (xr6 % 32))))) ⟨w.heap.size, 21, none⟩ (iv (xn / 2 + 65536 * (bits .xor .i64 xn (xn / 8) % 2)))) ⟨w.heap.size, 22, none⟩ (iv (nx xec (mx1 (xr11 + 256 * xr12))))) ⟨w.heap.size, 23, none⟩ (iv (fol (xr13 % 16) xes))) := (((hD.setCell (by simp) _).setCell (by simp) _).setCell (by simp) _).setCell (by simp) _
          go_wp2_with (first | (refine wpList_load_row rfl 35 (.tmp 1) rfl (w.heap.size) rfl 35 _ (0, 0) _ A9 Try.underlying35 rfl (by kernel_rfl) ?_) | (refine wpList_store_row rfl 35 (.tmp 2) (.tmp 96) rfl (w.heap.size + 1) #[iv xr0, iv xr1, iv xr2, iv xr3, iv xr4, iv xr5, iv xr6, iv xr7, iv xr8, iv xr9, iv xr10, iv xr11, iv xr12, iv xr13, iv xc0, iv xc1, iv xc2, iv xb0, iv xb1, iv xb2, iv (nx xnc (2 * (xr6 % 32))), iv (xn / 2 + 65536 * (bits .xor .i64 xn (xn / 8) % 2)), iv (nx xec (mx1 (xr11 + 256 * xr12))), iv (fol (xr13 % 16) xes)] rfl rfl 35 _ Z9 (by kernel_rfl) rfl (by kernel_rfl) ?_))
          refine bodyPost_ret (results_cell_row rfl _ _ (w.heap.size + 1) 35 _ (0, 0) _ rfl (setRow_heap _ _ _ _ _ _ Z9) Try.underlying35 rfl (by kernel_rfl)) rfl ⟨?_, below_setRow D9 (by simp) _⟩
          simp only [T.fin, T.cs, e1H.out, d1, d2, nz, if_true, Bool.false_eq_true, if_false, Int.reduceMul]
        · have d1 : du xnc (2 * (xr6 % 32)) = true := by assumption
          have d2 : du xec (mx1 (xr11 + 256 * xr12)) = false := by assumption
          have A9 : (World.setCell (World.setCell (World.setCell wr ⟨w.heap.size, 20, none⟩ (iv (nx xnc (2 * (xr6 % 32))))) ⟨w.heap.size, 21, none⟩ (iv (xn / 2 + 65536 * (bits .xor .i64 xn (xn / 8) % 2)))) ⟨w.heap.size, 22, none⟩ (iv (nx xec (mx1 (xr11 + 256 * xr12))))).heap[w.heap.size]? = some (.cells #[iv xr0, iv xr1, iv xr2, iv xr3, iv xr4, iv xr5, iv xr6, iv xr7, iv xr8, iv xr9, iv xr10, iv xr11, iv xr12, iv xr13, iv xc0, iv xc1, iv xc2, iv xb0, iv xb1, iv xb2, iv (nx xnc (2 * (xr6 % 32))), iv (xn / 2 + 65536 * (bits .xor .i64 xn (xn / 8) % 2)), iv (nx xec (mx1 (xr11 + 256 * xr12))), iv xes] 35 (0, 0)) := (bkPut (bkPut (bkPut A0 20 (iv (nx xnc (2 * (xr6 % 32)))) rfl) 21 (iv (xn / 2 + 65536 * (bits .xor .i64 xn (xn / 8) % 2))) rfl) 22 (iv (nx xec (mx1 (xr11 + 256 * xr12)))) rfl)
          have Z9 : (World.setCell (World.setCell (World.setCell wr ⟨w.heap.size, 20, none⟩ (iv (nx xnc (2 * (xr6 % 32))))) ⟨w.heap.size, 21, none⟩ (iv (xn / 2 + 65536 * (bits .xor .i64 xn (xn / 8) % 2)))) ⟨w.heap.size, 22, none⟩ (iv (nx xec (mx1 (xr11 + 256 * xr12))))).heap[w.heap.size + 1]? = some (.cells #[iv 0, iv 0, iv 0, iv 0, iv 0, iv 0, iv 0, iv 0, iv 0, iv 0, iv 0, iv 0, iv 0, iv 0, iv 0, iv 0, iv 0, iv 0, iv 0, iv 0, iv 0, iv 0, iv 0, iv 0] 35 (0, 0)) := bkFar (bkFar (bkFar hZ (by simp) _) (by simp) _) (by simp) _
          have D9 : Below w.heap.size w (World.setCell (World.setCell (World.setCell wr ⟨w.heap.size, 20, none⟩ (iv (nx xnc (2 * (xr6 % 32))))) ⟨w.heap.size, 21, none⟩ (iv (xn / 2 + 65536 * (bits .xor .i64 xn (xn / 8) % 2)))) ⟨w.heap.size, 22, none⟩ (iv (nx xec (mx1 (xr11 + 256 * xr12))))) := ((hD.setCell (by simp) _).setCell (by simp) _).setCell (by simp) _
          go_wp2_with (first | (refine wpList_load_row rfl 35 (.tmp 1) rfl (w.heap.size) rfl 35 _ (0, 0) _ A9 Try.underlying35 rfl (by kernel_rfl) ?_) | (refine wpList_store_row rfl 35 (.tmp 2) (.tmp 96) rfl (w.heap.size + 1) #[iv xr0, iv xr1, iv xr2, iv xr3, iv xr4, iv xr5, iv xr6, iv xr7, iv xr8, iv xr9, iv xr10, iv xr11, iv xr12, iv xr13, iv xc0, iv xc1, iv xc2, iv xb0, iv xb1, iv xb2, iv (nx xnc (2 * (xr6 % 32))), iv (xn / 2 + 65536 * (bits .xor .i64 xn (xn / 8) % 2)), iv (nx xec (mx1 (xr11 + 256 * xr12))), iv xes] rfl rfl 35 _ Z9 (by kernel_rfl) rfl (by kernel_rfl) ?_))
          refine bodyPost_ret (results_cell_row rfl _ _ (w.heap.size + 1) 35 _ (0, 0) _ rfl (setRow_heap _ _ _ _ _ _ Z9) Try.underlying35 rfl (by kernel_rfl)) rfl ⟨?_, below_setRow D9 (by simp) _⟩
          simp only [T.fin, T.cs, e1H.out, d1, d2, nz, if_true, Bool.false_eq_true, if_false, Int.reduceMul]
        · have d1 : du xnc (2 * (xr6 % 32)) = false := by assumption
          have d2 : du xec (mx1 (xr11 + 256 * xr12)) = true := by assumption
          have A9 : (World.setCell (World.setCell (World.setCell wr ⟨w.heap.size, 20, none⟩ (iv (nx xnc (2 * (xr6 % 32))))) ⟨w.heap.size, 22, none⟩ (iv (nx xec (mx1 (xr11 + 256 * xr12))))) ⟨w.heap.size, 23, none⟩ (iv (fol (xr13 % 16) xes))).heap[w.heap.size]? = some (.cells #[iv xr0, iv xr1, iv xr2, iv xr3, iv xr4, iv xr5, iv xr6, iv xr7, iv xr8, iv xr9, iv xr10, iv xr11, iv xr12, iv xr13, iv xc0, iv xc1, iv xc2, iv xb0, iv xb1, iv xb2, iv (nx xnc (2 * (xr6 % 32))), iv xn, iv (nx xec (mx1 (xr11 + 256 * xr12))), iv (fol (xr13 % 16) xes)] 35 (0, 0)) := (bkPut (bkPut (bkPut A0 20 (iv (nx xnc (2 * (xr6 % 32)))) rfl) 22 (iv (nx xec (mx1 (xr11 + 256 * xr12)))) rfl) 23 (iv (fol (xr13 % 16) xes)) rfl)
          have Z9 : (World.setCell (World.setCell (World.setCell wr ⟨w.heap.size, 20, none⟩ (iv (nx xnc (2 * (xr6 % 32))))) ⟨w.heap.size, 22, none⟩ (iv (nx xec (mx1 (xr11 + 256 * xr12))))) ⟨w.heap.size, 23, none⟩ (iv (fol (xr13 % 16) xes))).heap[w.heap.size + 1]? = some (.cells #[iv 0, iv 0, iv 0, iv 0, iv 0, iv 0, iv 0, iv 0, iv 0, iv 0, iv 0, iv 0, iv 0, iv 0, iv 0, iv 0, iv 0, iv 0, iv 0, iv 0, iv 0, iv 0, iv 0, iv 0] 35 (0, 0)) := bkFar (bkFar (bkFar hZ (by simp) _) (by simp) _) (by simp) _
          have D9 : Below w.heap.size w (World.setCell (World.setCell (World.setCell wr ⟨w.heap.size, 20, none⟩ (iv (nx xnc (2 * (xr6 % 32))))) ⟨w.heap.size, 22, none⟩ (iv (nx xec (mx1 (xr11 + 256 * xr12))))) ⟨w.heap.size, 23, none⟩ (iv (fol (xr13 % 16) xes))) := ((hD.setCell (by simp) _).setCell (by simp) _).setCell (by simp) _
          go_wp2_with (first | (refine wpList_load_row rfl 35 (.tmp 1) rfl (w.heap.size) rfl 35 _ (0, 0) _ A9 Try.underlying35 rfl (by kernel_rfl) ?_) | (refine wpList_store_row rfl 35 (.tmp 2) (.tmp 96) rfl (w.heap.size + 1) #[iv xr0, iv xr1, iv xr2, iv xr3, iv xr4, iv xr5, iv xr6, iv xr7, iv xr8, iv xr9, iv xr10, iv xr11, iv xr12, iv xr13, iv xc0, iv xc1, iv xc2, iv xb0, iv xb1, iv xb2, iv (nx xnc (2 * (xr6 % 32))), iv xn, iv (nx xec (mx1 (xr11 + 256 * xr12))), iv (fol (xr13 % 16) xes)] rfl rfl 35 _ Z9 (by kernel_rfl) rfl (by kernel_rfl) ?_))
          refine bodyPost_ret (results_cell_row rfl _ _ (w.heap.size + 1) 35 _ (0, 0) _ rfl (setRow_heap _ _ _ _ _ _ Z9) Try.underlying35 rfl (by kernel_rfl)) rfl ⟨?_, below_setRow D9 (by simp) _⟩
          simp only [T.fin, T.cs, e1H.out, d1, d2, nz, if_true, Bool.false_eq_true, if_false, Int.reduceMul]
        · have d1 : du xnc (2 * (xr6 % 32)) = false := by assumption
          have d2 : du xec (mx1 (xr11 + 256 * xr12)) = false := by assumption
          have A9 : (World.setCell (World.setCell wr ⟨w.heap.size, 20, none⟩ (iv (nx xnc (2 * (xr6 % 32))))) ⟨w.heap.size, 22, none⟩ (iv (nx xec (mx1 (xr11 + 256 * xr12))))).heap[w.heap.size]? = some (.cells #[iv xr0, iv xr1, iv xr2, iv xr3, iv xr4, iv xr5, iv xr6, iv xr7, iv xr8, iv xr9, iv xr10, iv xr11, iv xr12, iv xr13, iv xc0, iv xc1, iv xc2, iv xb0, iv xb1, iv xb2, iv (nx xnc (2 * (xr6 % 32))), iv xn, iv (nx xec (mx1 (xr11 + 256 * xr12))), iv xes] 35 (0, 0)) := (bkPut (bkPut A0 20 (iv (nx xnc (2 * (xr6 % 32)))) rfl) 22 (iv (nx xec (mx1 (xr11 + 256 * xr12)))) rfl)
          have Z9 : (World.setCell (World.setCell wr ⟨w.heap.size, 20, none⟩ (iv (nx xnc (2 * (xr6 % 32))))) ⟨w.heap.size, 22, none⟩ (iv (nx xec (mx1 (xr11 + 256 * xr12))))).heap[w.heap.size + 1]? = some (.cells #[iv 0, iv 0, iv 0, iv 0, iv 0, iv 0, iv 0, iv 0, iv 0, iv 0, iv 0, iv 0, iv 0, iv 0, iv 0, iv 0, iv 0, iv 0, iv 0, iv 0, iv 0, iv 0, iv 0, iv 0] 35 (0, 0)) := bkFar (bkFar hZ (by simp) _) (by simp) _
          have D9 : Below w.heap.size w (World.setCell (World.setCell wr ⟨w.heap.size, 20, none⟩ (iv (nx xnc (2 * (xr6 % 32))))) ⟨w.heap.size, 22, none⟩ (iv (nx xec (mx1 (xr11 + 256 * xr12))))) := (hD.setCell (by simp) _).setCell (by simp) _
          go_wp2_with (first | (refine wpList_load_row rfl 35 (.tmp 1) rfl (w.heap.size) rfl 35 _ (0, 0) _ A9 Try.underlying35 rfl (by kernel_rfl) ?_) | (refine wpList_store_row rfl 35 (.tmp 2) (.tmp 96) rfl (w.heap.size + 1) #[iv xr0, iv xr1, iv xr2, iv xr3, iv xr4, iv xr5, iv xr6, iv xr7, iv xr8, iv xr9, iv xr10, iv xr11, iv xr12, iv xr13, iv xc0, iv xc1, iv xc2, iv xb0, iv xb1, iv xb2, iv (nx xnc (2 * (xr6 % 32))), iv xn, iv (nx xec (mx1 (xr11 + 256 * xr12))), iv xes] rfl rfl 35 _ Z9 (by kernel_rfl) rfl (by kernel_rfl) ?_))
          refine bodyPost_ret (results_cell_row rfl _ _ (w.heap.size + 1) 35 _ (0, 0) _ rfl (setRow_heap _ _ _ _ _ _ Z9) Try.underlying35 rfl (by kernel_rfl)) rfl ⟨?_, below_setRow D9 (by simp) _⟩
          simp only [T.fin, T.cs, e1H.out, d1, d2, nz, if_true, Bool.false_eq_true, if_false, Int.reduceMul]
      · have e1 : mx1 (xr6 % 32) = 1 := if_neg h1
        have e1H := Lib.hid e1
        clear e1
        go_upto_region 15 with (first | (go_at_call 59; (first | (with_reducible refine (count_any _ _ _ xoec xpec (by omega) (by omega)).mono ?_) | (with_reducible refine (count_pos _ _ _ (by omega) (by omega) (by omega) (by omega)).mono ?_)); rintro e w3 ⟨rfl, rfl⟩) | (go_at_call 39; (with_reducible refine (rfollows_any _ _ _ (by omega) (by omega) (by omega) (by omega)).mono ?_); rintro e w3 ⟨rfl, rfl⟩))
        · have d1 : du xnc (2) = true := by assumption
          have d2 : du xec (mx1 (xr11 + 256 * xr12)) = true := by assumption
          have A9 : (World.setCell (World.setCell (World.setCell (World.setCell wr ⟨w.heap.size, 20, none⟩ (iv (nx xnc (2)))) ⟨w.heap.size, 21, none⟩ (iv (xn / 2 + 65536 * (bits .xor .i64 xn (xn / 8) % 2)))) ⟨w.heap.size, 22, none⟩ (iv (nx xec (mx1 (xr11 + 256 * xr12))))) ⟨w.heap.size, 23, none⟩ (iv (fol (xr13 % 16) xes))).heap[w.heap.size]? = some (.cells #[iv xr0, iv xr1, iv xr2, iv xr3, iv xr4, iv xr5, iv xr6, iv xr7, iv xr8, iv xr9, iv xr10, iv xr11, iv xr12, iv xr13, iv xc0, iv xc1, iv xc2, iv xb0, iv xb1, iv xb2, iv (nx xnc (2)), iv (xn / 2 + 65536 * (bits .xor .i64 xn (xn / 8) % 2)), iv (nx xec (mx1 (xr11 + 256 * xr12))), iv (fol (xr13 % 16) xes)] 35 (0, 0)) := (bkPut (bkPut (bkPut (bkPut A0 20 (iv (nx xnc (2))) rfl) 21 (iv (xn / 2 + 65536 * (bits .xor .i64 xn (xn / 8) % 2))) rfl) 22 (iv (nx xec (mx1 (xr11 + 256 * xr12)))) rfl) 23 (iv (fol (xr13 % 16) xes)) rfl)
          have Z9 : (World.setCell (World.setCell (World.setCell (World.setCell wr ⟨w.heap.size, 20, none⟩ (iv (nx xnc (2)))) ⟨w.heap.size, 21, none⟩ (iv (xn / 2 + 65536 * (bits .xor .i64 xn (xn / 8) % 2)))) ⟨w.heap.size, 22, none⟩ (iv (nx xec (mx1 (xr11 + 256 * xr12))))) ⟨w.heap.size, 23, none⟩ (iv (fol (xr13 % 16) xes))).heap[w.heap.size + 1]? = some (.cells #[iv 0, iv 0, iv 0, iv 0, iv 0, iv 0, iv 0, iv 0, iv 0, iv 0, iv 0, iv 0, iv 0, iv 0, iv 0, iv 0, iv 0, iv 0, iv 0, iv 0, iv 0, iv 0, iv 0, iv 0] 35 (0, 0)) := bkFar (bkFar (bkFar (bkFar hZ (by simp) _) (by simp) _) (by simp) _) (by simp) _
          have D9 : Below w.heap.size w (World.setCell (World.setCell (World.setCell (World.setCell wr ⟨w.heap.size, 20, none⟩ (iv (nx xnc (2)))) ⟨w.heap.size, 21, none⟩ (iv (xn / 2 + 65536 * (bits .xor .i64 xn (xn / 8) % 2)))) ⟨w.heap.size, 22, none⟩ (iv (nx xec (mx1 (xr11 + 256 * xr12))))) ⟨w.heap.size, 23, none⟩ (iv (fol (xr13 % 16) xes))) := (((hD.setCell (by simp) _).setCell (by simp) _).setCell (by simp) _).setCell (by simp) _
          go_wp2_with (first | (refine wpList_load_row rfl 35 (.tmp 1) rfl (w.heap.size) rfl 35 _ (0, 0) _ A9 Try.underlying35 rfl (by kernel_rfl) ?_) | (refine wpList_store_row rfl 35 (.tmp 2) (.tmp 96) rfl (w.heap.size + 1) #[iv xr0, iv xr1, iv xr2, iv xr3, iv xr4, iv xr5, iv xr6, iv xr7, iv xr8, iv xr9, iv xr10, iv xr11, iv xr12, iv xr13, iv xc0, iv xc1, iv xc2, iv xb0, iv xb1, iv xb2, iv (nx xnc (2)), iv (xn / 2 + 65536 * (bits .xor .i64 xn (xn / 8) % 2)), iv (nx xec (mx1 (xr11 + 256 * xr12))), iv (fol (xr13 % 16) xes)] rfl rfl 35 _ Z9 (by kernel_rfl) rfl (by kernel_rfl) ?_))
          refine bodyPost_ret (results_cell_row rfl _ _ (w.heap.size + 1) 35 _ (0, 0) _ rfl (setRow_heap _ _ _ _ _ _ Z9) Try.underlying35 rfl (by kernel_rfl)) rfl ⟨?_, below_setRow D9 (by simp) _⟩
          simp only [T.fin, T.cs, e1H.out, d1, d2, nz, if_true, Bool.false_eq_true, if_false, Int.reduceMul]
        · have d1 : du xnc (2) = true := by assumption
          have d2 : du xec (mx1 (xr11 + 256 * xr12)) = false := by assumption
          have A9 : (World.setCell (World.setCell (World.setCell wr ⟨w.heap.size, 20, none⟩ (iv (nx xnc (2)))) ⟨w.heap.size, 21, none⟩ (iv (xn / 2 + 65536 * (bits .xor .i64 xn (xn / 8) % 2)))) ⟨w.heap.size, 22, none⟩ (iv (nx xec (mx1 (xr11 + 256 * xr12))))).heap[w.heap.size]? = some (.cells #[iv xr0, iv xr1, iv xr2, iv xr3, iv xr4, iv xr5, iv xr6, iv xr7, iv xr8, iv xr9, iv xr10, iv xr11, iv xr12, iv xr13, iv xc0, iv xc1, iv xc2, iv xb0, iv xb1, iv xb2, iv (nx xnc (2)), iv (xn / 2 + 65536 * (bits .xor .i64 xn (xn / 8) % 2)), iv (nx xec (mx1 (xr11 + 256 * xr12))), iv xes] 35 (0, 0)) := (bkPut (bkPut (bkPut A0 20 (iv (nx xnc (2))) rfl) 21 (iv (xn / 2 + 65536 * (bits .xor .i64 xn (xn / 8) % 2))) rfl) 22 (iv (nx xec (mx1 (xr11 + 256 * xr12)))) rfl)
          have Z9 : (World.setCell (World.setCell (World.setCell wr ⟨w.heap.size, 20, none⟩ (iv (nx xnc (2)))) ⟨w.heap.size, 21, none⟩ (iv (xn / 2 + 65536 * (bits .xor .i64 xn (xn / 8) % 2)))) ⟨w.heap.size, 22, none⟩ (iv (nx xec (mx1 (xr11 + 256 * xr12))))).heap[w.heap.size + 1]? = some (.cells #[iv 0, iv 0, iv 0, iv 0, iv 0, iv 0, iv 0, iv 0, iv 0, iv 0, iv 0, iv 0, iv 0, iv 0, iv 0, iv 0, iv 0, iv 0, iv 0, iv 0, iv 0, iv 0, iv 0, iv 0] 35 (0, 0)) := bkFar (bkFar (bkFar hZ (by simp) _) (by simp) _) (by simp) _
          have D9 : Below w.heap.size w (World.setCell (World.setCell (World.setCell wr ⟨w.heap.size, 20, none⟩ (iv (nx xnc (2)))) ⟨w.heap.size, 21, none⟩ (iv (xn / 2 + 65536 * (bits .xor .i64 xn (xn / 8) % 2)))) ⟨w.heap.size, 22, none⟩ (iv (nx xec (mx1 (xr11 + 256 * xr12))))) := ((hD.setCell (by simp) _).setCell (by simp) _).setCell (by simp) _
          go_wp2_with (first | (refine wpList_load_row rfl 35 (.tmp 1) rfl (w.heap.size) rfl 35 _ (0, 0) _ A9 Try.underlying35 rfl (by kernel_rfl) ?_) | (refine wpList_store_row rfl 35 (.tmp 2) (.tmp 96) rfl (w.heap.size + 1) #[iv xr0, iv xr1, iv xr2, iv xr3, iv xr4, iv xr5, iv xr6, iv xr7, iv xr8, iv xr9, iv xr10, iv xr11, iv xr12, iv xr13, iv xc0, iv xc1, iv xc2, iv xb0, iv xb1, iv xb2, iv (nx xnc (2)), iv (xn / 2 + 65536 * (bits .xor .i64 xn (xn / 8) % 2)), iv (nx xec (mx1 (xr11 + 256 * xr12))), iv xes] rfl rfl 35 _ Z9 (by kernel_rfl) rfl (by kernel_rfl) ?_))
          refine bodyPost_ret (results_cell_row rfl _ _ (w.heap.size + 1) 35 _ (0, 0) _ rfl (setRow_heap _ _ _ _ _ _ Z9) Try.underlying35 rfl (by kernel_rfl)) rfl ⟨?_, below_setRow D9 (by simp) _⟩
          simp only [T.fin, T.cs, e1H.out, d1, d2, nz, if_true, Bool.false_eq_true, if_false, Int.reduceMul]
        · have d1 : du xnc (2) = false := by assumption
          have d2 : du xec (mx1 (xr11 + 256 * xr12)) = true := by assumption
          have A9 : (World.setCell (World.setCell (World.setCell wr ⟨w.heap.size, 20, none⟩ (iv (nx xnc (2)))) ⟨w.heap.size, 22, none⟩ (iv (nx xec (mx1 (xr11 + 256 * xr12))))) ⟨w.heap.size, 23, none⟩ (iv (fol (xr13 % 16) xes))).heap[w.heap.size]? = some (.cells #[iv xr0, iv xr1, iv xr2, iv xr3, iv xr4, iv xr5, iv xr6, iv xr7, iv xr8, iv xr9, iv xr10, iv xr11, iv xr12, iv xr13, iv xc0, iv xc1, iv xc2, iv xb0, iv xb1, iv xb2, iv (nx xnc (2)), iv xn, iv (nx xec (mx1 (xr11 + 256 * xr12))), iv (fol (xr13 % 16) xes)] 35 (0, 0)) := (bkPut (bkPut (bkPut A0 20 (iv (nx xnc (2))) rfl) 22 (iv (nx xec (mx1 (xr11 + 256 * xr12)))) rfl) 23 (iv (fol (xr13 % 16) xes)) rfl)
          have Z9 : (World.setCell (World.setCell (World.setCell wr ⟨w.heap.size, 20, none⟩ (iv (nx xnc (2)))) ⟨w.heap.size, 22, none⟩ (iv (nx xec (mx1 (xr11 + 256 * xr12))))) ⟨w.heap.size, 23, none⟩ (iv (fol (xr13 % 16) xes))).heap[w.heap.size + 1]? = some (.cells #[iv 0, iv 0, iv 0, iv 0, iv 0, iv 0, iv 0, iv 0, iv 0, iv 0, iv 0, iv 0, iv 0, iv 0, iv 0, iv 0, iv 0, iv 0, iv 0, iv 0, iv 0, iv 0, iv 0, iv 0] 35 (0, 0)) := bkFar (bkFar (bkFar hZ (by simp) _) (by simp) _) (by simp) _
          have D9 : Below w.heap.size w (World.setCell (World.setCell (World.setCell wr ⟨w.heap.size, 20, none⟩ (iv (nx xnc (2)))) ⟨w.heap.size, 22, none⟩ (iv (nx xec (mx1 (xr11 + 256 * xr12))))) ⟨w.heap.size, 23, none⟩ (iv (fol (xr13 % 16) xes))) := ((hD.setCell (by simp) _).setCell (by simp) _).setCell (by simp) _
          go_wp2_with (first | (refine wpList_load_row rfl 35 (.tmp 1) rfl (w.heap.size) rfl 35 _ (0, 0) _ A9 Try.underlying35 rfl (by kernel_rfl) ?_) | (refine wpList_store_row rfl 35 (.tmp 2) (.tmp 96) rfl (w.heap.size + 1) #[iv xr0, iv xr1, iv xr2, iv xr3, iv xr4, iv xr5, iv xr6, iv xr7, iv xr8, iv xr9, iv xr10, iv xr11, iv xr12, iv xr13, iv xc0, iv xc1, iv xc2, iv xb0, iv xb1, iv xb2, iv (nx xnc (2)), iv xn, iv (nx xec (mx1 (xr11 + 256 * xr12))), iv (fol (xr13 % 16) xes)] rfl rfl 35 _ Z9 (by kernel_rfl) rfl (by kernel_rfl) ?_))
          refine bodyPost_ret (results_cell_row rfl _ _ (w.heap.size + 1) 35 _ (0, 0) _ rfl (setRow_heap _ _ _ _ _ _ Z9) Try.underlying35 rfl (by kernel_rfl)) rfl ⟨?_, below_setRow D9 (by simp) _⟩
          simp only [T.fin, T.cs, e1H.out, d1, d2, nz, if_true, Bool.false_eq_true, if_false, Int.reduceMul]
        · have d1 : du xnc (2) = false := by assumption
          have d2 : du xec (mx1 (xr11 + 256 * xr12)) = false := by assumption
          have A9 : (World.setCell (World.setCell wr ⟨w.heap.size, 20, none⟩ (iv (nx xnc (2)))) ⟨w.heap.size, 22, none⟩ (iv (nx xec (mx1 (xr11 + 256 * xr12))))).heap[w.heap.size]? = some (.cells #[iv xr0, iv xr1, iv xr2, iv xr3, iv xr4, iv xr5, iv xr6, iv xr7, iv xr8, iv xr9, iv xr10, iv xr11, iv xr12, iv xr13, iv xc0, iv xc1, iv xc2, iv xb0, iv xb1, iv xb2, iv (nx xnc (2)), iv xn, iv (nx xec (mx1 (xr11 + 256 * xr12))), iv xes] 35 (0, 0)) := (bkPut (bkPut A0 20 (iv (nx xnc (2))) rfl) 22 (iv (nx xec (mx1 (xr11 + 256 * xr12)))) rfl)
          have Z9 : (World.setCell (World.setCell wr ⟨w.heap.size, 20, none⟩ (iv (nx xnc (2)))) ⟨w.heap.size, 22, none⟩ (iv (nx xec (mx1 (xr11 + 256 * xr12))))).heap[w.heap.size + 1]? = some (.cells #[iv 0, iv 0, iv 0, iv 0, iv 0, iv 0, iv 0, iv 0, iv 0, iv 0, iv 0, iv 0, iv 0, iv 0, iv 0, iv 0, iv 0, iv 0, iv 0, iv 0, iv 0, iv 0, iv 0, iv 0] 35 (0, 0)) := bkFar (bkFar hZ (by simp) _) (by simp) _
          have D9 : Below w.heap.size w (World.setCell (World.setCell wr ⟨w.heap.size, 20, none⟩ (iv (nx xnc (2)))) ⟨w.heap.size, 22, none⟩ (iv (nx xec (mx1 (xr11 + 256 * xr12))))) := (hD.setCell (by simp) _).setCell (by simp) _
          go_wp2_with (first | (refine wpList_load_row rfl 35 (.tmp 1) rfl (w.heap.size) rfl 35 _ (0, 0) _ A9 Try.underlying35 rfl (by kernel_rfl) ?_) | (refine wpList_store_row rfl 35 (.tmp 2) (.tmp 96) rfl (w.heap.size + 1) #[iv xr0, iv xr1, iv xr2, iv xr3, iv xr4, iv xr5, iv xr6, iv xr7, iv xr8, iv xr9, iv xr10, iv xr11, iv xr12, iv xr13, iv xc0, iv xc1, iv xc2, iv xb0, iv xb1, iv xb2, iv (nx xnc (2)), iv xn, iv (nx xec (mx1 (xr11 + 256 * xr12))), iv xes] rfl rfl 35 _ Z9 (by kernel_rfl) rfl (by kernel_rfl) ?_))
          refine bodyPost_ret (results_cell_row rfl _ _ (w.heap.size + 1) 35 _ (0, 0) _ rfl (setRow_heap _ _ _ _ _ _ Z9) Try.underlying35 rfl (by kernel_rfl)) rfl ⟨?_, below_setRow D9 (by simp) _⟩
          simp only [T.fin, T.cs, e1H.out, d1, d2, nz, if_true, Bool.false_eq_true, if_false, Int.reduceMul]
end Go.Proofs.Ytfpgidflaaefeaa.CH

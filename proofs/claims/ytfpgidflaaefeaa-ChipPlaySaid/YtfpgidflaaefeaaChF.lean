/- The tone chip: what it puts out, by the program and by the reference; conditions: the chip is in its ranges. -/
import Derived.Test.YtfpgidflaaefeaaChE
namespace Go.Proofs.Ytfpgidflaaefeaa.CH
open Go.RowKit Go.Proofs.YtfpgidflaaefeaaW.PrintLast
set_option linter.unusedVariables false
set_option linter.unusedSimpArgs false
/-- whether a tone sounds -/
def onB (b n r7 m1 m2 : Int) : Bool := (b == 1 || r7 / m1 % 2 == 1) && (n % 2 == 1 || r7 / m2 % 2 == 1)
/-- a tone's volume -/
def vol (r s es : Int) : Int := if r / 16 % 2 = 1 then shv s es / 2 else r % 16
/-- what a tone puts out -/
def tout (b n r7 m1 m2 r s es : Int) : Int := if onB b n r7 m1 m2 then lvl (vol r s es) else 0
/-- what the first tones put out -/
def T.out (t : T) : Nat → Int
  | 0 => 0
  | 1 => tout t.b0 t.n t.r7 1 8 t.r8 (t.r13 % 16) t.es
  | 2 => tout t.b0 t.n t.r7 1 8 t.r8 (t.r13 % 16) t.es + tout t.b1 t.n t.r7 2 16 t.r9 (t.r13 % 16) t.es
  | _ => tout t.b0 t.n t.r7 1 8 t.r8 (t.r13 % 16) t.es + tout t.b1 t.n t.r7 2 16 t.r9 (t.r13 % 16) t.es + tout t.b2 t.n t.r7 4 32 t.r10 (t.r13 % 16) t.es
theorem tout_bd (b n r7 m1 m2 r s es : Int) : 0 ≤ tout b n r7 m1 m2 r s es ∧ tout b n r7 m1 m2 r s es ≤ 8192 := by unfold tout; split; exact lvl_bd _; decide
theorem shv_bd {s t : Int} (h0 : 0 ≤ s) (h1 : s ≤ 15) (t0 : 0 ≤ t) (t1 : t ≤ 63) : 0 ≤ shv s t ∧ shv s t ≤ 31 := by unfold shv; repeat' split <;> omega
theorem and16 : ∀ r : Int, 0 ≤ r → r ≤ 255 → bits .and .i64 r 16 = r / 16 % 2 * 16 := by
  intro r h0 h1
  have : ∀ k : Fin 256, bits .and .i64 (k.val : Int) 16 = (k.val : Int) / 16 % 2 * 16 := by decide +kernel
  have := this ⟨r.toNat, by omega⟩
  simpa [Int.toNat_of_nonneg h0] using this
set_option maxHeartbeats 16000000 in
set_option maxRecDepth 100000 in
theorem value_any (t : T) (ht : t.Ok) (g h : Nat) (w : World) (hT : w.heap[g]? = some (.cells t.cs 71 (0, 0))) (hL : w.heap[h]? = some (.cells lvL 65 (0, 0))) :
    Calls Try.prog 58 #[.pointer (some ⟨g, 0, none⟩), .pointer (some ⟨h, 0, none⟩)] w fun e w' => e = .returned (iv (t.out 3)) ∧ Below w.heap.size w w' := by
  obtain ⟨r0, r1, r2, r3, r4, r5, r6, r7, r8, r9, r10, r11, r12, r13, c0, c1, c2, b0, b1, b2, nc, n, ec, es⟩ := t
  obtain ⟨⟨or0, pr0⟩, ⟨or1, pr1⟩, ⟨or2, pr2⟩, ⟨or3, pr3⟩, ⟨or4, pr4⟩, ⟨or5, pr5⟩, ⟨or6, pr6⟩, ⟨or7, pr7⟩, ⟨or8, pr8⟩, ⟨or9, pr9⟩, ⟨or10, pr10⟩, ⟨or11, pr11⟩, ⟨or12, pr12⟩, ⟨or13, pr13⟩, ⟨oc0, pc0⟩, ⟨oc1, pc1⟩, ⟨oc2, pc2⟩, ⟨ob0, pb0⟩, ⟨ob1, pb1⟩, ⟨ob2, pb2⟩, ⟨onc, pnc⟩, ⟨on, pn⟩, ⟨oec, pec⟩, ⟨oes, pes⟩⟩ := ht
  simp only at or0 pr0 or1 pr1 or2 pr2 or3 pr3 or4 pr4 or5 pr5 or6 pr6 or7 pr7 or8 pr8 or9 pr9 or10 pr10 or11 pr11 or12 pr12 or13 pr13 oc0 pc0 oc1 pc1 oc2 pc2 ob0 pb0 ob1 pb1 ob2 pb2 onc pnc on pn oec pec oes pes
  clear or0 pr0 or1 pr1 or2 pr2 or3 pr3 or4 pr4 or5 pr5 or6 pr6 or11 pr11 or12 pr12 oc0 pc0 oc1 pc1 oc2 pc2 onc pnc oec pec
  obtain ⟨sh0, sh1⟩ := shv_bd (s := r13 % 16) (t := es) (by omega) (by omega) oes pes
  have T0 := tout_bd b0 n r7 1 8 r8 (r13 % 16) es
  obtain ⟨q0, s0⟩ := T0
  have T1 := tout_bd b1 n r7 2 16 r9 (r13 % 16) es
  obtain ⟨q1, s1⟩ := T1
  have T2 := tout_bd b2 n r7 4 32 r10 (r13 % 16) es
  obtain ⟨q2, s2⟩ := T2
  have hT1 : w.heap[g]? = some (.cells #[iv r0, iv r1, iv r2, iv r3, iv r4, iv r5, iv r6, iv r7, iv r8, iv r9, iv r10, iv r11, iv r12, iv r13, iv c0, iv c1, iv c2, iv b0, iv b1, iv b2, iv nc, iv n, iv ec, iv es] 71 (0, 0)) := hT
  clear hT
  go_enter Try.func58, Try.ntmps58
  go_wp2
  go_loopw [5, 10] (fun s v wr => ∃ k : Nat, k ≤ 3 ∧ v = iv k ∧ s = iv (T.out ⟨r0, r1, r2, r3, r4, r5, r6, r7, r8, r9, r10, r11, r12, r13, c0, c1, c2, b0, b1, b2, nc, n, ec, es⟩ k) ∧ (∃ n, wr = w.drewN n)) (fun _ v _ => 3 - (intOf v).toNat)
  case atStart => exact ⟨0, by omega, rfl, rfl, 0, rfl⟩
  case round =>
    obtain ⟨k, hk, rfl, rfl, nd, rfl⟩ := hrel
    rcases (by omega : k = 0 ∨ k = 1 ∨ k = 2 ∨ k = 3) with rfl | rfl | rfl | rfl
    · rw [show T.out ⟨r0, r1, r2, r3, r4, r5, r6, r7, r8, r9, r10, r11, r12, r13, c0, c1, c2, b0, b1, b2, nc, n, ec, es⟩ 0 = 0 from rfl]
      have g7 : w.cell? ⟨g, 7, none⟩ = some (iv r7) := (bkCell hT1 7).trans rfl
      have g8 : w.cell? ⟨g, 8, none⟩ = some (iv r8) := (bkCell hT1 8).trans rfl
      have g13 : w.cell? ⟨g, 13, none⟩ = some (iv r13) := (bkCell hT1 13).trans rfl
      have g17 : w.cell? ⟨g, 17, none⟩ = some (iv b0) := (bkCell hT1 17).trans rfl
      have g21 : w.cell? ⟨g, 21, none⟩ = some (iv n) := (bkCell hT1 21).trans rfl
      have g23 : w.cell? ⟨g, 23, none⟩ = some (iv es) := (bkCell hT1 23).trans rfl
      rcases (by omega : b0 = 1 ∨ b0 = 0 ∧ r7 % 2 = 1 ∨ b0 = 0 ∧ r7 % 2 = 0) with rfl | ⟨rfl, hB⟩ | ⟨rfl, hB⟩
      · rcases (by omega : n % 2 = 1 ∨ n % 2 = 0 ∧ (r7 / 8) % 2 = 1 ∨ n % 2 = 0 ∧ (r7 / 8) % 2 = 0) with hC | ⟨hC, hD⟩ | ⟨hC, hD⟩
        · rcases (by omega : r8 / 16 % 2 = 1 ∨ r8 / 16 % 2 = 0) with hE | hE
          · have hO : (tout 1 n r7 1 8 r8 (r13 % 16) es) = lvl (shv (r13 % 16) es / 2) := by simp [tout, onB, vol, hC, hE]
            have HO := Lib.hid hO
            have eC := (i64_and1 n).trans hC
            have eE := and16 r8 or8 pr8
            rw [hE] at eE
            clear hO hC hE
            have hv0 : 0 ≤ (shv (r13 % 16) es / 2) := by omega
            have hv1 : (shv (r13 % 16) es / 2) < 16 := by omega
            obtain ⟨hl0, hl1⟩ := lvl_bd (shv (r13 % 16) es / 2)
            have gL : w.cell? ⟨h, (shv (r13 % 16) es / 2).toNat, none⟩ = some (iv (lvl (shv (r13 % 16) es / 2))) := (bkCell hL _).trans (lvL_at _ hv0 hv1)
            have tm : r13.tmod 16 = r13 % 16 := Int.tmod_eq_emod_of_nonneg or13
            have td : (shv (r13 % 16) es).tdiv 2 = shv (r13 % 16) es / 2 := Int.tdiv_eq_ediv_of_nonneg sh0
            have tw : wrap64 (shv (r13 % 16) es / 2) = shv (r13 % 16) es / 2 := by unfold wrap64; omega
            go_wp2
            refine start_ (n := 15) (S := fun w' => w'.cell? ⟨g, 13, none⟩ = some (iv r13) ∧ w'.cell? ⟨g, 23, none⟩ = some (iv es) ∧ ∃ m, w' = w.drewN m) (ds := []) #[false, false, false, false, false, false, false, false, false, false, false, false, false, false, false] (by kernel_rfl) rfl rfl ⟨g13, g23, ⟨nd + 1, by first | rfl | (simp [World.drewN, World.drew, Nat.add_assoc]; done)⟩⟩ (fun hHeld => ?_)
            refine pure_ (i := 0) (N := some 78) (v := ?_) (a' := ?_) #[true, false, false, false, false, false, false, false, false, false, false, false, false, false, false] rfl rfl (by kernel_rfl) (fun _ _ _ h => h) (Or.inl ⟨by rfl, ?_⟩) ?_ ?_
            rotate_left
            · intro w'
              go_simp
              with_reducible rfl
            rotate_left
            · simp only [Act.put, List.setIfInBounds_toArray, List.set_cons_zero, List.set_cons_succ, i64_w, i32_w, tm, td, tw]
              rfl
            refine pure_ (i := 1) (N := some 79) (v := ?_) (a' := ?_) #[true, true, false, false, false, false, false, false, false, false, false, false, false, false, false] rfl rfl (by kernel_rfl) (fun _ _ _ h => h) (Or.inl ⟨by rfl, ?_⟩) ?_ ?_
            rotate_left
            · intro w'
              go_simp
              with_reducible rfl
            rotate_left
            · simp only [Act.put, List.setIfInBounds_toArray, List.set_cons_zero, List.set_cons_succ, i64_w, i32_w, tm, td, tw]
              rfl
            refine pure_ (i := 2) (N := some 80) (v := ?_) (a' := ?_) #[true, true, true, false, false, false, false, false, false, false, false, false, false, false, false] rfl rfl (by kernel_rfl) (fun _ _ _ h => h) (Or.inl ⟨by rfl, ?_⟩) ?_ ?_
            rotate_left
            · intro w'
              go_simp
              with_reducible rfl
            rotate_left
            · simp only [Act.put, List.setIfInBounds_toArray, List.set_cons_zero, List.set_cons_succ, i64_w, i32_w, tm, td, tw]
              rfl
            refine pure_ (i := 3) (N := some 81) (v := ?_) (a' := ?_) #[true, true, true, true, false, false, false, false, false, false, false, false, false, false, false] rfl rfl (by kernel_rfl) (fun _ _ _ h => h) (Or.inl ⟨by rfl, ?_⟩) ?_ ?_
            rotate_left
            · intro w'
              go_simp
              with_reducible rfl
            rotate_left
            · simp only [Act.put, List.setIfInBounds_toArray, List.set_cons_zero, List.set_cons_succ, i64_w, i32_w, tm, td, tw]
              rfl
            refine pure_ (i := 4) (N := some 82) (v := ?_) (a' := ?_) #[true, true, true, true, true, false, false, false, false, false, false, false, false, false, false] rfl rfl (by kernel_rfl) (fun _ _ _ h => h) (Or.inl ⟨by rfl, ?_⟩) ?_ ?_
            rotate_left
            · intro w'
              go_simp
              with_reducible rfl
            rotate_left
            · simp only [Act.put, List.setIfInBounds_toArray, List.set_cons_zero, List.set_cons_succ, i64_w, i32_w, tm, td, tw]
              rfl
            refine pure_ (i := 7) (N := some 85) (v := ?_) (a' := ?_) #[true, true, true, true, true, false, false, true, false, false, false, false, false, false, false] rfl rfl (by kernel_rfl) (fun _ _ _ h => h) (Or.inl ⟨by rfl, ?_⟩) ?_ ?_
            rotate_left
            · intro w'
              go_simp
              with_reducible rfl
            rotate_left
            · simp only [Act.put, List.setIfInBounds_toArray, List.set_cons_zero, List.set_cons_succ, i64_w, i32_w, tm, td, tw]
              rfl
            refine pure_ (i := 8) (N := some 86) (v := ?_) (a' := ?_) #[true, true, true, true, true, false, false, true, true, false, false, false, false, false, false] rfl rfl (by kernel_rfl) (fun _ _ _ h => h) (Or.inl ⟨by rfl, ?_⟩) ?_ ?_
            rotate_left
            · intro w'
              go_simp
              with_reducible rfl
            rotate_left
            · simp only [Act.put, List.setIfInBounds_toArray, List.set_cons_zero, List.set_cons_succ, i64_w, i32_w, tm, td, tw]
              rfl
            refine pure_ (i := 9) (N := some 87) (v := ?_) (a' := ?_) #[true, true, true, true, true, false, false, true, true, true, false, false, false, false, false] rfl rfl (by kernel_rfl) (fun _ _ _ h => h) (Or.inl ⟨by rfl, ?_⟩) ?_ ?_
            rotate_left
            · intro w'
              go_simp
              with_reducible rfl
            rotate_left
            · simp only [Act.put, List.setIfInBounds_toArray, List.set_cons_zero, List.set_cons_succ, i64_w, i32_w, tm, td, tw]
              rfl
            refine pure_ (i := 10) (N := some 88) (v := ?_) (a' := ?_) #[true, true, true, true, true, false, false, true, true, true, true, false, false, false, false] rfl rfl (by kernel_rfl) (fun _ _ _ h => h) (Or.inl ⟨by rfl, ?_⟩) ?_ ?_
            rotate_left
            · intro w'
              go_simp
              with_reducible rfl
            rotate_left
            · simp only [Act.put, List.setIfInBounds_toArray, List.set_cons_zero, List.set_cons_succ, i64_w, i32_w, tm, td, tw]
              rfl
            refine take_ (i := 5) (N := some 83) (v := ?_) (a' := ?_) #[true, true, true, true, true, true, false, true, true, true, true, false, false, false, false] rfl rfl (by kernel_rfl) (fun _ _ _ h => h) (Or.inl ⟨by rfl, ?_⟩) hHeld ?_ ?_
            rotate_left
            · rintro w' ⟨s0, s1, s2⟩
              go_simp
              with_reducible rfl
            rotate_left
            · simp only [Act.put, List.setIfInBounds_toArray, List.set_cons_zero, List.set_cons_succ, i64_w, i32_w, tm, td, tw]
              rfl
            refine pure_ (i := 6) (N := some 84) (v := ?_) (a' := ?_) #[true, true, true, true, true, true, true, true, true, true, true, false, false, false, false] rfl rfl (by kernel_rfl) (fun _ _ _ h => h) (Or.inl ⟨by rfl, ?_⟩) ?_ ?_
            rotate_left
            · intro w'
              go_simp
              with_reducible rfl
            rotate_left
            · simp only [Act.put, List.setIfInBounds_toArray, List.set_cons_zero, List.set_cons_succ, i64_w, i32_w, tm, td, tw]
              rfl
            refine take_ (i := 11) (N := some 89) (v := ?_) (a' := ?_) #[true, true, true, true, true, true, true, true, true, true, true, true, false, false, false] rfl rfl (by kernel_rfl) (fun _ _ _ h => h) (Or.inl ⟨by rfl, ?_⟩) hHeld ?_ ?_
            rotate_left
            · rintro w' ⟨s0, s1, s2⟩
              go_simp
              with_reducible rfl
            rotate_left
            · simp only [Act.put, List.setIfInBounds_toArray, List.set_cons_zero, List.set_cons_succ, i64_w, i32_w, tm, td, tw]
              rfl
            refine one_ (i := 12) (N := some 90) #[true, true, true, true, true, true, true, true, true, true, true, true, true, false, false] rfl rfl (by kernel_rfl) (by decide) (fun K hK => ?_)
            refine goes_ Try.func36 (by kernel_rfl) rfl #[iv (r13 % 16), iv es] (by rfl) rfl rfl (by simp only [List.map_toArray, List.map_cons, List.map_nil]; rfl) ?_
            with_reducible refine (shaped_any _ _ _ (by omega) (by omega) oes pes).mono ?_
            rintro e w4 ⟨rfl, rfl⟩
            refine ⟨_, rfl, ?_⟩
            refine hK.out _ _ ⟨hHeld.1, hHeld.2.1, hHeld.2.2⟩ (fun hHeld => ?_)
            clear hK K
            refine norm_ (a' := ?_) ?_ ?_
            rotate_left
            · show Act.put _ (some 90) _ = _
              simp only [Act.put, List.setIfInBounds_toArray, List.set_cons_zero, List.set_cons_succ, i64_w, i32_w, tm, td, tw]
              rfl
            refine pure_ (i := 13) (N := some 91) (v := ?_) (a' := ?_) #[true, true, true, true, true, true, true, true, true, true, true, true, true, true, false] rfl rfl (by kernel_rfl) (fun _ _ _ h => h) (Or.inl ⟨by rfl, ?_⟩) ?_ ?_
            rotate_left
            · intro w'
              go_simp
              with_reducible rfl
            rotate_left
            · simp only [Act.put, List.setIfInBounds_toArray, List.set_cons_zero, List.set_cons_succ, i64_w, i32_w, tm, td, tw]
              rfl
            refine pure_ (i := 14) (N := some 9) (v := ?_) (a' := ?_) #[true, true, true, true, true, true, true, true, true, true, true, true, true, true, true] rfl rfl (by kernel_rfl) (fun _ _ _ h => h) (Or.inl ⟨by rfl, ?_⟩) ?_ ?_
            rotate_left
            · intro w'
              go_simp
              with_reducible rfl
            rotate_left
            · simp only [Act.put, List.setIfInBounds_toArray, List.set_cons_zero, List.set_cons_succ, i64_w, i32_w, tm, td, tw]
              rfl
            refine done_ (by kernel_rfl) ?_
            obtain ⟨_, _, mw, hmw⟩ := hHeld
            clear tm td tw
            go_wp2
            exact ⟨⟨1, by omega, rfl, by rw [show T.out _ 1 = (tout 1 n r7 1 8 r8 (r13 % 16) es) from rfl, HO.out], mw, by first | rfl | exact hmw⟩, by simp [intOf]⟩
          · have hO : (tout 1 n r7 1 8 r8 (r13 % 16) es) = lvl (r8 % 16) := by simp [tout, onB, vol, hC, hE]
            have HO := Lib.hid hO
            have eC := (i64_and1 n).trans hC
            have eE := and16 r8 or8 pr8
            rw [hE] at eE
            clear hO hC hE
            have hv0 : 0 ≤ (r8 % 16) := by omega
            have hv1 : (r8 % 16) < 16 := by omega
            obtain ⟨hl0, hl1⟩ := lvl_bd (r8 % 16)
            have gL : w.cell? ⟨h, (r8 % 16).toNat, none⟩ = some (iv (lvl (r8 % 16))) := (bkCell hL _).trans (lvL_at _ hv0 hv1)
            go_wp2
            exact ⟨⟨1, by omega, rfl, by rw [show T.out _ 1 = (tout 1 n r7 1 8 r8 (r13 % 16) es) from rfl, HO.out], nd, rfl⟩, by simp [intOf]⟩
        · rcases (by omega : r8 / 16 % 2 = 1 ∨ r8 / 16 % 2 = 0) with hE | hE
          · have hO : (tout 1 n r7 1 8 r8 (r13 % 16) es) = lvl (shv (r13 % 16) es / 2) := by simp [tout, onB, vol, hC, hD, hE]
            have HO := Lib.hid hO
            have eC := (i64_and1 n).trans hC
            have eD := (i64_and1 (r7 / 8)).trans hD
            have eE := and16 r8 or8 pr8
            rw [hE] at eE
            clear hO hC hD hE
            have hv0 : 0 ≤ (shv (r13 % 16) es / 2) := by omega
            have hv1 : (shv (r13 % 16) es / 2) < 16 := by omega
            obtain ⟨hl0, hl1⟩ := lvl_bd (shv (r13 % 16) es / 2)
            have gL : w.cell? ⟨h, (shv (r13 % 16) es / 2).toNat, none⟩ = some (iv (lvl (shv (r13 % 16) es / 2))) := (bkCell hL _).trans (lvL_at _ hv0 hv1)
            have tm : r13.tmod 16 = r13 % 16 := Int.tmod_eq_emod_of_nonneg or13
            have td : (shv (r13 % 16) es).tdiv 2 = shv (r13 % 16) es / 2 := Int.tdiv_eq_ediv_of_nonneg sh0
            have tw : wrap64 (shv (r13 % 16) es / 2) = shv (r13 % 16) es / 2 := by unfold wrap64; omega
            go_wp2
            refine start_ (n := 15) (S := fun w' => w'.cell? ⟨g, 13, none⟩ = some (iv r13) ∧ w'.cell? ⟨g, 23, none⟩ = some (iv es) ∧ ∃ m, w' = w.drewN m) (ds := []) #[false, false, false, false, false, false, false, false, false, false, false, false, false, false, false] (by kernel_rfl) rfl rfl ⟨g13, g23, ⟨nd + 1, by first | rfl | (simp [World.drewN, World.drew, Nat.add_assoc]; done)⟩⟩ (fun hHeld => ?_)
            refine pure_ (i := 0) (N := some 78) (v := ?_) (a' := ?_) #[true, false, false, false, false, false, false, false, false, false, false, false, false, false, false] rfl rfl (by kernel_rfl) (fun _ _ _ h => h) (Or.inl ⟨by rfl, ?_⟩) ?_ ?_
            rotate_left
            · intro w'
              go_simp
              with_reducible rfl
            rotate_left
            · simp only [Act.put, List.setIfInBounds_toArray, List.set_cons_zero, List.set_cons_succ, i64_w, i32_w, tm, td, tw]
              rfl
            refine pure_ (i := 1) (N := some 79) (v := ?_) (a' := ?_) #[true, true, false, false, false, false, false, false, false, false, false, false, false, false, false] rfl rfl (by kernel_rfl) (fun _ _ _ h => h) (Or.inl ⟨by rfl, ?_⟩) ?_ ?_
            rotate_left
            · intro w'
              go_simp
              with_reducible rfl
            rotate_left
            · simp only [Act.put, List.setIfInBounds_toArray, List.set_cons_zero, List.set_cons_succ, i64_w, i32_w, tm, td, tw]
              rfl
            refine pure_ (i := 2) (N := some 80) (v := ?_) (a' := ?_) #[true, true, true, false, false, false, false, false, false, false, false, false, false, false, false] rfl rfl (by kernel_rfl) (fun _ _ _ h => h) (Or.inl ⟨by rfl, ?_⟩) ?_ ?_
            rotate_left
            · intro w'
              go_simp
              with_reducible rfl
            rotate_left
            · simp only [Act.put, List.setIfInBounds_toArray, List.set_cons_zero, List.set_cons_succ, i64_w, i32_w, tm, td, tw]
              rfl
            refine pure_ (i := 3) (N := some 81) (v := ?_) (a' := ?_) #[true, true, true, true, false, false, false, false, false, false, false, false, false, false, false] rfl rfl (by kernel_rfl) (fun _ _ _ h => h) (Or.inl ⟨by rfl, ?_⟩) ?_ ?_
            rotate_left
            · intro w'
              go_simp
              with_reducible rfl
            rotate_left
            · simp only [Act.put, List.setIfInBounds_toArray, List.set_cons_zero, List.set_cons_succ, i64_w, i32_w, tm, td, tw]
              rfl
            refine pure_ (i := 4) (N := some 82) (v := ?_) (a' := ?_) #[true, true, true, true, true, false, false, false, false, false, false, false, false, false, false] rfl rfl (by kernel_rfl) (fun _ _ _ h => h) (Or.inl ⟨by rfl, ?_⟩) ?_ ?_
            rotate_left
            · intro w'
              go_simp
              with_reducible rfl
            rotate_left
            · simp only [Act.put, List.setIfInBounds_toArray, List.set_cons_zero, List.set_cons_succ, i64_w, i32_w, tm, td, tw]
              rfl
            refine pure_ (i := 7) (N := some 85) (v := ?_) (a' := ?_) #[true, true, true, true, true, false, false, true, false, false, false, false, false, false, false] rfl rfl (by kernel_rfl) (fun _ _ _ h => h) (Or.inl ⟨by rfl, ?_⟩) ?_ ?_
            rotate_left
            · intro w'
              go_simp
              with_reducible rfl
            rotate_left
            · simp only [Act.put, List.setIfInBounds_toArray, List.set_cons_zero, List.set_cons_succ, i64_w, i32_w, tm, td, tw]
              rfl
            refine pure_ (i := 8) (N := some 86) (v := ?_) (a' := ?_) #[true, true, true, true, true, false, false, true, true, false, false, false, false, false, false] rfl rfl (by kernel_rfl) (fun _ _ _ h => h) (Or.inl ⟨by rfl, ?_⟩) ?_ ?_
            rotate_left
            · intro w'
              go_simp
              with_reducible rfl
            rotate_left
            · simp only [Act.put, List.setIfInBounds_toArray, List.set_cons_zero, List.set_cons_succ, i64_w, i32_w, tm, td, tw]
              rfl
            refine pure_ (i := 9) (N := some 87) (v := ?_) (a' := ?_) #[true, true, true, true, true, false, false, true, true, true, false, false, false, false, false] rfl rfl (by kernel_rfl) (fun _ _ _ h => h) (Or.inl ⟨by rfl, ?_⟩) ?_ ?_
            rotate_left
            · intro w'
              go_simp
              with_reducible rfl
            rotate_left
            · simp only [Act.put, List.setIfInBounds_toArray, List.set_cons_zero, List.set_cons_succ, i64_w, i32_w, tm, td, tw]
              rfl
            refine pure_ (i := 10) (N := some 88) (v := ?_) (a' := ?_) #[true, true, true, true, true, false, false, true, true, true, true, false, false, false, false] rfl rfl (by kernel_rfl) (fun _ _ _ h => h) (Or.inl ⟨by rfl, ?_⟩) ?_ ?_
            rotate_left
            · intro w'
              go_simp
              with_reducible rfl
            rotate_left
            · simp only [Act.put, List.setIfInBounds_toArray, List.set_cons_zero, List.set_cons_succ, i64_w, i32_w, tm, td, tw]
              rfl
            refine take_ (i := 5) (N := some 83) (v := ?_) (a' := ?_) #[true, true, true, true, true, true, false, true, true, true, true, false, false, false, false] rfl rfl (by kernel_rfl) (fun _ _ _ h => h) (Or.inl ⟨by rfl, ?_⟩) hHeld ?_ ?_
            rotate_left
            · rintro w' ⟨s0, s1, s2⟩
              go_simp
              with_reducible rfl
            rotate_left
            · simp only [Act.put, List.setIfInBounds_toArray, List.set_cons_zero, List.set_cons_succ, i64_w, i32_w, tm, td, tw]
              rfl
            refine pure_ (i := 6) (N := some 84) (v := ?_) (a' := ?_) #[true, true, true, true, true, true, true, true, true, true, true, false, false, false, false] rfl rfl (by kernel_rfl) (fun _ _ _ h => h) (Or.inl ⟨by rfl, ?_⟩) ?_ ?_
            rotate_left
            · intro w'
              go_simp
              with_reducible rfl
            rotate_left
            · simp only [Act.put, List.setIfInBounds_toArray, List.set_cons_zero, List.set_cons_succ, i64_w, i32_w, tm, td, tw]
              rfl
            refine take_ (i := 11) (N := some 89) (v := ?_) (a' := ?_) #[true, true, true, true, true, true, true, true, true, true, true, true, false, false, false] rfl rfl (by kernel_rfl) (fun _ _ _ h => h) (Or.inl ⟨by rfl, ?_⟩) hHeld ?_ ?_
            rotate_left
            · rintro w' ⟨s0, s1, s2⟩
              go_simp
              with_reducible rfl
            rotate_left
            · simp only [Act.put, List.setIfInBounds_toArray, List.set_cons_zero, List.set_cons_succ, i64_w, i32_w, tm, td, tw]
              rfl
            refine one_ (i := 12) (N := some 90) #[true, true, true, true, true, true, true, true, true, true, true, true, true, false, false] rfl rfl (by kernel_rfl) (by decide) (fun K hK => ?_)
            refine goes_ Try.func36 (by kernel_rfl) rfl #[iv (r13 % 16), iv es] (by rfl) rfl rfl (by simp only [List.map_toArray, List.map_cons, List.map_nil]; rfl) ?_
            with_reducible refine (shaped_any _ _ _ (by omega) (by omega) oes pes).mono ?_
            rintro e w4 ⟨rfl, rfl⟩
            refine ⟨_, rfl, ?_⟩
            refine hK.out _ _ ⟨hHeld.1, hHeld.2.1, hHeld.2.2⟩ (fun hHeld => ?_)
            clear hK K
            refine norm_ (a' := ?_) ?_ ?_
            rotate_left
            · show Act.put _ (some 90) _ = _
              simp only [Act.put, List.setIfInBounds_toArray, List.set_cons_zero, List.set_cons_succ, i64_w, i32_w, tm, td, tw]
              rfl
            refine pure_ (i := 13) (N := some 91) (v := ?_) (a' := ?_) #[true, true, true, true, true, true, true, true, true, true, true, true, true, true, false] rfl rfl (by kernel_rfl) (fun _ _ _ h => h) (Or.inl ⟨by rfl, ?_⟩) ?_ ?_
            rotate_left
            · intro w'
              go_simp
              with_reducible rfl
            rotate_left
            · simp only [Act.put, List.setIfInBounds_toArray, List.set_cons_zero, List.set_cons_succ, i64_w, i32_w, tm, td, tw]
              rfl
            refine pure_ (i := 14) (N := some 9) (v := ?_) (a' := ?_) #[true, true, true, true, true, true, true, true, true, true, true, true, true, true, true] rfl rfl (by kernel_rfl) (fun _ _ _ h => h) (Or.inl ⟨by rfl, ?_⟩) ?_ ?_
            rotate_left
            · intro w'
              go_simp
              with_reducible rfl
            rotate_left
            · simp only [Act.put, List.setIfInBounds_toArray, List.set_cons_zero, List.set_cons_succ, i64_w, i32_w, tm, td, tw]
              rfl
            refine done_ (by kernel_rfl) ?_
            obtain ⟨_, _, mw, hmw⟩ := hHeld
            clear tm td tw
            go_wp2
            exact ⟨⟨1, by omega, rfl, by rw [show T.out _ 1 = (tout 1 n r7 1 8 r8 (r13 % 16) es) from rfl, HO.out], mw, by first | rfl | exact hmw⟩, by simp [intOf]⟩
          · have hO : (tout 1 n r7 1 8 r8 (r13 % 16) es) = lvl (r8 % 16) := by simp [tout, onB, vol, hC, hD, hE]
            have HO := Lib.hid hO
            have eC := (i64_and1 n).trans hC
            have eD := (i64_and1 (r7 / 8)).trans hD
            have eE := and16 r8 or8 pr8
            rw [hE] at eE
            clear hO hC hD hE
            have hv0 : 0 ≤ (r8 % 16) := by omega
            have hv1 : (r8 % 16) < 16 := by omega
            obtain ⟨hl0, hl1⟩ := lvl_bd (r8 % 16)
            have gL : w.cell? ⟨h, (r8 % 16).toNat, none⟩ = some (iv (lvl (r8 % 16))) := (bkCell hL _).trans (lvL_at _ hv0 hv1)
            go_wp2
            exact ⟨⟨1, by omega, rfl, by rw [show T.out _ 1 = (tout 1 n r7 1 8 r8 (r13 % 16) es) from rfl, HO.out], nd, rfl⟩, by simp [intOf]⟩
        · have hO : (tout 1 n r7 1 8 r8 (r13 % 16) es) = 0 := by simp [tout, onB, vol, hC, hD]
          have HO := Lib.hid hO
          have eC := (i64_and1 n).trans hC
          have eD := (i64_and1 (r7 / 8)).trans hD
          clear hO hC hD
          go_wp2
          exact ⟨⟨1, by omega, rfl, by rw [show T.out _ 1 = (tout 1 n r7 1 8 r8 (r13 % 16) es) from rfl, HO.out], nd, rfl⟩, by simp [intOf]⟩
      · rcases (by omega : n % 2 = 1 ∨ n % 2 = 0 ∧ (r7 / 8) % 2 = 1 ∨ n % 2 = 0 ∧ (r7 / 8) % 2 = 0) with hC | ⟨hC, hD⟩ | ⟨hC, hD⟩
        · rcases (by omega : r8 / 16 % 2 = 1 ∨ r8 / 16 % 2 = 0) with hE | hE
          · have hO : (tout 0 n r7 1 8 r8 (r13 % 16) es) = lvl (shv (r13 % 16) es / 2) := by simp [tout, onB, vol, hB, hC, hE]
            have HO := Lib.hid hO
            have eB := (i64_and1 r7).trans hB
            have eC := (i64_and1 n).trans hC
            have eE := and16 r8 or8 pr8
            rw [hE] at eE
            clear hO hB hC hE
            have hv0 : 0 ≤ (shv (r13 % 16) es / 2) := by omega
            have hv1 : (shv (r13 % 16) es / 2) < 16 := by omega
            obtain ⟨hl0, hl1⟩ := lvl_bd (shv (r13 % 16) es / 2)
            have gL : w.cell? ⟨h, (shv (r13 % 16) es / 2).toNat, none⟩ = some (iv (lvl (shv (r13 % 16) es / 2))) := (bkCell hL _).trans (lvL_at _ hv0 hv1)
            have tm : r13.tmod 16 = r13 % 16 := Int.tmod_eq_emod_of_nonneg or13
            have td : (shv (r13 % 16) es).tdiv 2 = shv (r13 % 16) es / 2 := Int.tdiv_eq_ediv_of_nonneg sh0
            have tw : wrap64 (shv (r13 % 16) es / 2) = shv (r13 % 16) es / 2 := by unfold wrap64; omega
            go_wp2
            refine start_ (n := 15) (S := fun w' => w'.cell? ⟨g, 13, none⟩ = some (iv r13) ∧ w'.cell? ⟨g, 23, none⟩ = some (iv es) ∧ ∃ m, w' = w.drewN m) (ds := []) #[false, false, false, false, false, false, false, false, false, false, false, false, false, false, false] (by kernel_rfl) rfl rfl ⟨g13, g23, ⟨nd + 1, by first | rfl | (simp [World.drewN, World.drew, Nat.add_assoc]; done)⟩⟩ (fun hHeld => ?_)
            refine pure_ (i := 0) (N := some 78) (v := ?_) (a' := ?_) #[true, false, false, false, false, false, false, false, false, false, false, false, false, false, false] rfl rfl (by kernel_rfl) (fun _ _ _ h => h) (Or.inl ⟨by rfl, ?_⟩) ?_ ?_
            rotate_left
            · intro w'
              go_simp
              with_reducible rfl
            rotate_left
            · simp only [Act.put, List.setIfInBounds_toArray, List.set_cons_zero, List.set_cons_succ, i64_w, i32_w, tm, td, tw]
              rfl
            refine pure_ (i := 1) (N := some 79) (v := ?_) (a' := ?_) #[true, true, false, false, false, false, false, false, false, false, false, false, false, false, false] rfl rfl (by kernel_rfl) (fun _ _ _ h => h) (Or.inl ⟨by rfl, ?_⟩) ?_ ?_
            rotate_left
            · intro w'
              go_simp
              with_reducible rfl
            rotate_left
            · simp only [Act.put, List.setIfInBounds_toArray, List.set_cons_zero, List.set_cons_succ, i64_w, i32_w, tm, td, tw]
              rfl
            refine pure_ (i := 2) (N := some 80) (v := ?_) (a' := ?_) #[true, true, true, false, false, false, false, false, false, false, false, false, false, false, false] rfl rfl (by kernel_rfl) (fun _ _ _ h => h) (Or.inl ⟨by rfl, ?_⟩) ?_ ?_
            rotate_left
            · intro w'
              go_simp
              with_reducible rfl
            rotate_left
            · simp only [Act.put, List.setIfInBounds_toArray, List.set_cons_zero, List.set_cons_succ, i64_w, i32_w, tm, td, tw]
              rfl
            refine pure_ (i := 3) (N := some 81) (v := ?_) (a' := ?_) #[true, true, true, true, false, false, false, false, false, false, false, false, false, false, false] rfl rfl (by kernel_rfl) (fun _ _ _ h => h) (Or.inl ⟨by rfl, ?_⟩) ?_ ?_
            rotate_left
            · intro w'
              go_simp
              with_reducible rfl
            rotate_left
            · simp only [Act.put, List.setIfInBounds_toArray, List.set_cons_zero, List.set_cons_succ, i64_w, i32_w, tm, td, tw]
              rfl
            refine pure_ (i := 4) (N := some 82) (v := ?_) (a' := ?_) #[true, true, true, true, true, false, false, false, false, false, false, false, false, false, false] rfl rfl (by kernel_rfl) (fun _ _ _ h => h) (Or.inl ⟨by rfl, ?_⟩) ?_ ?_
            rotate_left
            · intro w'
              go_simp
              with_reducible rfl
            rotate_left
            · simp only [Act.put, List.setIfInBounds_toArray, List.set_cons_zero, List.set_cons_succ, i64_w, i32_w, tm, td, tw]
              rfl
            refine pure_ (i := 7) (N := some 85) (v := ?_) (a' := ?_) #[true, true, true, true, true, false, false, true, false, false, false, false, false, false, false] rfl rfl (by kernel_rfl) (fun _ _ _ h => h) (Or.inl ⟨by rfl, ?_⟩) ?_ ?_
            rotate_left
            · intro w'
              go_simp
              with_reducible rfl
            rotate_left
            · simp only [Act.put, List.setIfInBounds_toArray, List.set_cons_zero, List.set_cons_succ, i64_w, i32_w, tm, td, tw]
              rfl
            refine pure_ (i := 8) (N := some 86) (v := ?_) (a' := ?_) #[true, true, true, true, true, false, false, true, true, false, false, false, false, false, false] rfl rfl (by kernel_rfl) (fun _ _ _ h => h) (Or.inl ⟨by rfl, ?_⟩) ?_ ?_
            rotate_left
            · intro w'
              go_simp
              with_reducible rfl
            rotate_left
            · simp only [Act.put, List.setIfInBounds_toArray, List.set_cons_zero, List.set_cons_succ, i64_w, i32_w, tm, td, tw]
              rfl
            refine pure_ (i := 9) (N := some 87) (v := ?_) (a' := ?_) #[true, true, true, true, true, false, false, true, true, true, false, false, false, false, false] rfl rfl (by kernel_rfl) (fun _ _ _ h => h) (Or.inl ⟨by rfl, ?_⟩) ?_ ?_
            rotate_left
            · intro w'
              go_simp
              with_reducible rfl
            rotate_left
            · simp only [Act.put, List.setIfInBounds_toArray, List.set_cons_zero, List.set_cons_succ, i64_w, i32_w, tm, td, tw]
              rfl
            refine pure_ (i := 10) (N := some 88) (v := ?_) (a' := ?_) #[true, true, true, true, true, false, false, true, true, true, true, false, false, false, false] rfl rfl (by kernel_rfl) (fun _ _ _ h => h) (Or.inl ⟨by rfl, ?_⟩) ?_ ?_
            rotate_left
            · intro w'
              go_simp
              with_reducible rfl
            rotate_left
            · simp only [Act.put, List.setIfInBounds_toArray, List.set_cons_zero, List.set_cons_succ, i64_w, i32_w, tm, td, tw]
              rfl
            refine take_ (i := 5) (N := some 83) (v := ?_) (a' := ?_) #[true, true, true, true, true, true, false, true, true, true, true, false, false, false, false] rfl rfl (by kernel_rfl) (fun _ _ _ h => h) (Or.inl ⟨by rfl, ?_⟩) hHeld ?_ ?_
            rotate_left
            · rintro w' ⟨s0, s1, s2⟩
              go_simp
              with_reducible rfl
            rotate_left
            · simp only [Act.put, List.setIfInBounds_toArray, List.set_cons_zero, List.set_cons_succ, i64_w, i32_w, tm, td, tw]
              rfl
            refine pure_ (i := 6) (N := some 84) (v := ?_) (a' := ?_) #[true, true, true, true, true, true, true, true, true, true, true, false, false, false, false] rfl rfl (by kernel_rfl) (fun _ _ _ h => h) (Or.inl ⟨by rfl, ?_⟩) ?_ ?_
            rotate_left
            · intro w'
              go_simp
              with_reducible rfl
            rotate_left
            · simp only [Act.put, List.setIfInBounds_toArray, List.set_cons_zero, List.set_cons_succ, i64_w, i32_w, tm, td, tw]
              rfl
            refine take_ (i := 11) (N := some 89) (v := ?_) (a' := ?_) #[true, true, true, true, true, true, true, true, true, true, true, true, false, false, false] rfl rfl (by kernel_rfl) (fun _ _ _ h => h) (Or.inl ⟨by rfl, ?_⟩) hHeld ?_ ?_
            rotate_left
            · rintro w' ⟨s0, s1, s2⟩
              go_simp
              with_reducible rfl
            rotate_left
            · simp only [Act.put, List.setIfInBounds_toArray, List.set_cons_zero, List.set_cons_succ, i64_w, i32_w, tm, td, tw]
              rfl
            refine one_ (i := 12) (N := some 90) #[true, true, true, true, true, true, true, true, true, true, true, true, true, false, false] rfl rfl (by kernel_rfl) (by decide) (fun K hK => ?_)
            refine goes_ Try.func36 (by kernel_rfl) rfl #[iv (r13 % 16), iv es] (by rfl) rfl rfl (by simp only [List.map_toArray, List.map_cons, List.map_nil]; rfl) ?_
            with_reducible refine (shaped_any _ _ _ (by omega) (by omega) oes pes).mono ?_
            rintro e w4 ⟨rfl, rfl⟩
            refine ⟨_, rfl, ?_⟩
            refine hK.out _ _ ⟨hHeld.1, hHeld.2.1, hHeld.2.2⟩ (fun hHeld => ?_)
            clear hK K
            refine norm_ (a' := ?_) ?_ ?_
            rotate_left
            · show Act.put _ (some 90) _ = _
              simp only [Act.put, List.setIfInBounds_toArray, List.set_cons_zero, List.set_cons_succ, i64_w, i32_w, tm, td, tw]
              rfl
            refine pure_ (i := 13) (N := some 91) (v := ?_) (a' := ?_) #[true, true, true, true, true, true, true, true, true, true, true, true, true, true, false] rfl rfl (by kernel_rfl) (fun _ _ _ h => h) (Or.inl ⟨by rfl, ?_⟩) ?_ ?_
            rotate_left
            · intro w'
              go_simp
              with_reducible rfl
            rotate_left
            · simp only [Act.put, List.setIfInBounds_toArray, List.set_cons_zero, List.set_cons_succ, i64_w, i32_w, tm, td, tw]
              rfl
            refine pure_ (i := 14) (N := some 9) (v := ?_) (a' := ?_) #[true, true, true, true, true, true, true, true, true, true, true, true, true, true, true] rfl rfl (by kernel_rfl) (fun _ _ _ h => h) (Or.inl ⟨by rfl, ?_⟩) ?_ ?_
            rotate_left
            · intro w'
              go_simp
              with_reducible rfl
            rotate_left
            · simp only [Act.put, List.setIfInBounds_toArray, List.set_cons_zero, List.set_cons_succ, i64_w, i32_w, tm, td, tw]
              rfl
            refine done_ (by kernel_rfl) ?_
            obtain ⟨_, _, mw, hmw⟩ := hHeld
            clear tm td tw
            go_wp2
            exact ⟨⟨1, by omega, rfl, by rw [show T.out _ 1 = (tout 0 n r7 1 8 r8 (r13 % 16) es) from rfl, HO.out], mw, by first | rfl | exact hmw⟩, by simp [intOf]⟩
          · have hO : (tout 0 n r7 1 8 r8 (r13 % 16) es) = lvl (r8 % 16) := by simp [tout, onB, vol, hB, hC, hE]
            have HO := Lib.hid hO
            have eB := (i64_and1 r7).trans hB
            have eC := (i64_and1 n).trans hC
            have eE := and16 r8 or8 pr8
            rw [hE] at eE
            clear hO hB hC hE
            have hv0 : 0 ≤ (r8 % 16) := by omega
            have hv1 : (r8 % 16) < 16 := by omega
            obtain ⟨hl0, hl1⟩ := lvl_bd (r8 % 16)
            have gL : w.cell? ⟨h, (r8 % 16).toNat, none⟩ = some (iv (lvl (r8 % 16))) := (bkCell hL _).trans (lvL_at _ hv0 hv1)
            go_wp2
            exact ⟨⟨1, by omega, rfl, by rw [show T.out _ 1 = (tout 0 n r7 1 8 r8 (r13 % 16) es) from rfl, HO.out], nd, rfl⟩, by simp [intOf]⟩
        · rcases (by omega : r8 / 16 % 2 = 1 ∨ r8 / 16 % 2 = 0) with hE | hE
          · have hO : (tout 0 n r7 1 8 r8 (r13 % 16) es) = lvl (shv (r13 % 16) es / 2) := by simp [tout, onB, vol, hB, hC, hD, hE]
            have HO := Lib.hid hO
            have eB := (i64_and1 r7).trans hB
            have eC := (i64_and1 n).trans hC
            have eD := (i64_and1 (r7 / 8)).trans hD
            have eE := and16 r8 or8 pr8
            rw [hE] at eE
            clear hO hB hC hD hE
            have hv0 : 0 ≤ (shv (r13 % 16) es / 2) := by omega
            have hv1 : (shv (r13 % 16) es / 2) < 16 := by omega
            obtain ⟨hl0, hl1⟩ := lvl_bd (shv (r13 % 16) es / 2)
            have gL : w.cell? ⟨h, (shv (r13 % 16) es / 2).toNat, none⟩ = some (iv (lvl (shv (r13 % 16) es / 2))) := (bkCell hL _).trans (lvL_at _ hv0 hv1)
            have tm : r13.tmod 16 = r13 % 16 := Int.tmod_eq_emod_of_nonneg or13
            have td : (shv (r13 % 16) es).tdiv 2 = shv (r13 % 16) es / 2 := Int.tdiv_eq_ediv_of_nonneg sh0
            have tw : wrap64 (shv (r13 % 16) es / 2) = shv (r13 % 16) es / 2 := by unfold wrap64; omega
            go_wp2
            refine start_ (n := 15) (S := fun w' => w'.cell? ⟨g, 13, none⟩ = some (iv r13) ∧ w'.cell? ⟨g, 23, none⟩ = some (iv es) ∧ ∃ m, w' = w.drewN m) (ds := []) #[false, false, false, false, false, false, false, false, false, false, false, false, false, false, false] (by kernel_rfl) rfl rfl ⟨g13, g23, ⟨nd + 1, by first | rfl | (simp [World.drewN, World.drew, Nat.add_assoc]; done)⟩⟩ (fun hHeld => ?_)
            refine pure_ (i := 0) (N := some 78) (v := ?_) (a' := ?_) #[true, false, false, false, false, false, false, false, false, false, false, false, false, false, false] rfl rfl (by kernel_rfl) (fun _ _ _ h => h) (Or.inl ⟨by rfl, ?_⟩) ?_ ?_
            rotate_left
            · intro w'
              go_simp
              with_reducible rfl
            rotate_left
            · simp only [Act.put, List.setIfInBounds_toArray, List.set_cons_zero, List.set_cons_succ, i64_w, i32_w, tm, td, tw]
              rfl
            refine pure_ (i := 1) (N := some 79) (v := ?_) (a' := ?_) #[true, true, false, false, false, false, false, false, false, false, false, false, false, false, false] rfl rfl (by kernel_rfl) (fun _ _ _ h => h) (Or.inl ⟨by rfl, ?_⟩) ?_ ?_
            rotate_left
            · intro w'
              go_simp
              with_reducible rfl
            rotate_left
            · simp only [Act.put, List.setIfInBounds_toArray, List.set_cons_zero, List.set_cons_succ, i64_w, i32_w, tm, td, tw]
              rfl
            refine pure_ (i := 2) (N := some 80) (v := ?_) (a' := ?_) #[true, true, true, false, false, false, false, false, false, false, false, false, false, false, false] rfl rfl (by kernel_rfl) (fun _ _ _ h => h) (Or.inl ⟨by rfl, ?_⟩) ?_ ?_
            rotate_left
            · intro w'
              go_simp
              with_reducible rfl
            rotate_left
            · simp only [Act.put, List.setIfInBounds_toArray, List.set_cons_zero, List.set_cons_succ, i64_w, i32_w, tm, td, tw]
              rfl
            refine pure_ (i := 3) (N := some 81) (v := ?_) (a' := ?_) #[true, true, true, true, false, false, false, false, false, false, false, false, false, false, false] rfl rfl (by kernel_rfl) (fun _ _ _ h => h) (Or.inl ⟨by rfl, ?_⟩) ?_ ?_
            rotate_left
            · intro w'
              go_simp
              with_reducible rfl
            rotate_left
            · simp only [Act.put, List.setIfInBounds_toArray, List.set_cons_zero, List.set_cons_succ, i64_w, i32_w, tm, td, tw]
              rfl
            refine pure_ (i := 4) (N := some 82) (v := ?_) (a' := ?_) #[true, true, true, true, true, false, false, false, false, false, false, false, false, false, false] rfl rfl (by kernel_rfl) (fun _ _ _ h => h) (Or.inl ⟨by rfl, ?_⟩) ?_ ?_
            rotate_left
            · intro w'
              go_simp
              with_reducible rfl
            rotate_left
            · simp only [Act.put, List.setIfInBounds_toArray, List.set_cons_zero, List.set_cons_succ, i64_w, i32_w, tm, td, tw]
              rfl
            refine pure_ (i := 7) (N := some 85) (v := ?_) (a' := ?_) #[true, true, true, true, true, false, false, true, false, false, false, false, false, false, false] rfl rfl (by kernel_rfl) (fun _ _ _ h => h) (Or.inl ⟨by rfl, ?_⟩) ?_ ?_
            rotate_left
            · intro w'
              go_simp
              with_reducible rfl
            rotate_left
            · simp only [Act.put, List.setIfInBounds_toArray, List.set_cons_zero, List.set_cons_succ, i64_w, i32_w, tm, td, tw]
              rfl
            refine pure_ (i := 8) (N := some 86) (v := ?_) (a' := ?_) #[true, true, true, true, true, false, false, true, true, false, false, false, false, false, false] rfl rfl (by kernel_rfl) (fun _ _ _ h => h) (Or.inl ⟨by rfl, ?_⟩) ?_ ?_
            rotate_left
            · intro w'
              go_simp
              with_reducible rfl
            rotate_left
            · simp only [Act.put, List.setIfInBounds_toArray, List.set_cons_zero, List.set_cons_succ, i64_w, i32_w, tm, td, tw]
              rfl
            refine pure_ (i := 9) (N := some 87) (v := ?_) (a' := ?_) #[true, true, true, true, true, false, false, true, true, true, false, false, false, false, false] rfl rfl (by kernel_rfl) (fun _ _ _ h => h) (Or.inl ⟨by rfl, ?_⟩) ?_ ?_
            rotate_left
            · intro w'
              go_simp
              with_reducible rfl
            rotate_left
            · simp only [Act.put, List.setIfInBounds_toArray, List.set_cons_zero, List.set_cons_succ, i64_w, i32_w, tm, td, tw]
              rfl
            refine pure_ (i := 10) (N := some 88) (v := ?_) (a' := ?_) #[true, true, true, true, true, false, false, true, true, true, true, false, false, false, false] rfl rfl (by kernel_rfl) (fun _ _ _ h => h) (Or.inl ⟨by rfl, ?_⟩) ?_ ?_
            rotate_left
            · intro w'
              go_simp
              with_reducible rfl
            rotate_left
            · simp only [Act.put, List.setIfInBounds_toArray, List.set_cons_zero, List.set_cons_succ, i64_w, i32_w, tm, td, tw]
              rfl
            refine take_ (i := 5) (N := some 83) (v := ?_) (a' := ?_) #[true, true, true, true, true, true, false, true, true, true, true, false, false, false, false] rfl rfl (by kernel_rfl) (fun _ _ _ h => h) (Or.inl ⟨by rfl, ?_⟩) hHeld ?_ ?_
            rotate_left
            · rintro w' ⟨s0, s1, s2⟩
              go_simp
              with_reducible rfl
            rotate_left
            · simp only [Act.put, List.setIfInBounds_toArray, List.set_cons_zero, List.set_cons_succ, i64_w, i32_w, tm, td, tw]
              rfl
            refine pure_ (i := 6) (N := some 84) (v := ?_) (a' := ?_) #[true, true, true, true, true, true, true, true, true, true, true, false, false, false, false] rfl rfl (by kernel_rfl) (fun _ _ _ h => h) (Or.inl ⟨by rfl, ?_⟩) ?_ ?_
            rotate_left
            · intro w'
              go_simp
              with_reducible rfl
            rotate_left
            · simp only [Act.put, List.setIfInBounds_toArray, List.set_cons_zero, List.set_cons_succ, i64_w, i32_w, tm, td, tw]
              rfl
            refine take_ (i := 11) (N := some 89) (v := ?_) (a' := ?_) #[true, true, true, true, true, true, true, true, true, true, true, true, false, false, false] rfl rfl (by kernel_rfl) (fun _ _ _ h => h) (Or.inl ⟨by rfl, ?_⟩) hHeld ?_ ?_
            rotate_left
            · rintro w' ⟨s0, s1, s2⟩
              go_simp
              with_reducible rfl
            rotate_left
            · simp only [Act.put, List.setIfInBounds_toArray, List.set_cons_zero, List.set_cons_succ, i64_w, i32_w, tm, td, tw]
              rfl
            refine one_ (i := 12) (N := some 90) #[true, true, true, true, true, true, true, true, true, true, true, true, true, false, false] rfl rfl (by kernel_rfl) (by decide) (fun K hK => ?_)
            refine goes_ Try.func36 (by kernel_rfl) rfl #[iv (r13 % 16), iv es] (by rfl) rfl rfl (by simp only [List.map_toArray, List.map_cons, List.map_nil]; rfl) ?_
            with_reducible refine (shaped_any _ _ _ (by omega) (by omega) oes pes).mono ?_
            rintro e w4 ⟨rfl, rfl⟩
            refine ⟨_, rfl, ?_⟩
            refine hK.out _ _ ⟨hHeld.1, hHeld.2.1, hHeld.2.2⟩ (fun hHeld => ?_)
            clear hK K
            refine norm_ (a' := ?_) ?_ ?_
            rotate_left
            · show Act.put _ (some 90) _ = _
              simp only [Act.put, List.setIfInBounds_toArray, List.set_cons_zero, List.set_cons_succ, i64_w, i32_w, tm, td, tw]
              rfl
            refine pure_ (i := 13) (N := some 91) (v := ?_) (a' := ?_) #[true, true, true, true, true, true, true, true, true, true, true, true, true, true, false] rfl rfl (by kernel_rfl) (fun _ _ _ h => h) (Or.inl ⟨by rfl, ?_⟩) ?_ ?_
            rotate_left
            · intro w'
              go_simp
              with_reducible rfl
            rotate_left
            · simp only [Act.put, List.setIfInBounds_toArray, List.set_cons_zero, List.set_cons_succ, i64_w, i32_w, tm, td, tw]
              rfl
            refine pure_ (i := 14) (N := some 9) (v := ?_) (a' := ?_) #[true, true, true, true, true, true, true, true, true, true, true, true, true, true, true] rfl rfl (by kernel_rfl) (fun _ _ _ h => h) (Or.inl ⟨by rfl, ?_⟩) ?_ ?_
            rotate_left
            · intro w'
              go_simp
              with_reducible rfl
            rotate_left
            · simp only [Act.put, List.setIfInBounds_toArray, List.set_cons_zero, List.set_cons_succ, i64_w, i32_w, tm, td, tw]
              rfl
            refine done_ (by kernel_rfl) ?_
            obtain ⟨_, _, mw, hmw⟩ := hHeld
            clear tm td tw
            go_wp2
            exact ⟨⟨1, by omega, rfl, by rw [show T.out _ 1 = (tout 0 n r7 1 8 r8 (r13 % 16) es) from rfl, HO.out], mw, by first | rfl | exact hmw⟩, by simp [intOf]⟩
          · have hO : (tout 0 n r7 1 8 r8 (r13 % 16) es) = lvl (r8 % 16) := by simp [tout, onB, vol, hB, hC, hD, hE]
            have HO := Lib.hid hO
            have eB := (i64_and1 r7).trans hB
            have eC := (i64_and1 n).trans hC
            have eD := (i64_and1 (r7 / 8)).trans hD
            have eE := and16 r8 or8 pr8
            rw [hE] at eE
            clear hO hB hC hD hE
            have hv0 : 0 ≤ (r8 % 16) := by omega
            have hv1 : (r8 % 16) < 16 := by omega
            obtain ⟨hl0, hl1⟩ := lvl_bd (r8 % 16)
            have gL : w.cell? ⟨h, (r8 % 16).toNat, none⟩ = some (iv (lvl (r8 % 16))) := (bkCell hL _).trans (lvL_at _ hv0 hv1)
            go_wp2
            exact ⟨⟨1, by omega, rfl, by rw [show T.out _ 1 = (tout 0 n r7 1 8 r8 (r13 % 16) es) from rfl, HO.out], nd, rfl⟩, by simp [intOf]⟩
        · have hO : (tout 0 n r7 1 8 r8 (r13 % 16) es) = 0 := by simp [tout, onB, vol, hB, hC, hD]
          have HO := Lib.hid hO
          have eB := (i64_and1 r7).trans hB
          have eC := (i64_and1 n).trans hC
          have eD := (i64_and1 (r7 / 8)).trans hD
          clear hO hB hC hD
          go_wp2
          exact ⟨⟨1, by omega, rfl, by rw [show T.out _ 1 = (tout 0 n r7 1 8 r8 (r13 % 16) es) from rfl, HO.out], nd, rfl⟩, by simp [intOf]⟩
      · rcases (by omega : n % 2 = 1 ∨ n % 2 = 0 ∧ (r7 / 8) % 2 = 1 ∨ n % 2 = 0 ∧ (r7 / 8) % 2 = 0) with hC | ⟨hC, hD⟩ | ⟨hC, hD⟩
        · have hO : (tout 0 n r7 1 8 r8 (r13 % 16) es) = 0 := by simp [tout, onB, vol, hB, hC]
          have HO := Lib.hid hO
          have eB := (i64_and1 r7).trans hB
          have eC := (i64_and1 n).trans hC
          clear hO hB hC
          go_wp2
          exact ⟨⟨1, by omega, rfl, by rw [show T.out _ 1 = (tout 0 n r7 1 8 r8 (r13 % 16) es) from rfl, HO.out], nd, rfl⟩, by simp [intOf]⟩
        · have hO : (tout 0 n r7 1 8 r8 (r13 % 16) es) = 0 := by simp [tout, onB, vol, hB, hC, hD]
          have HO := Lib.hid hO
          have eB := (i64_and1 r7).trans hB
          have eC := (i64_and1 n).trans hC
          have eD := (i64_and1 (r7 / 8)).trans hD
          clear hO hB hC hD
          go_wp2
          exact ⟨⟨1, by omega, rfl, by rw [show T.out _ 1 = (tout 0 n r7 1 8 r8 (r13 % 16) es) from rfl, HO.out], nd, rfl⟩, by simp [intOf]⟩
        · have hO : (tout 0 n r7 1 8 r8 (r13 % 16) es) = 0 := by simp [tout, onB, vol, hB, hC, hD]
          have HO := Lib.hid hO
          have eB := (i64_and1 r7).trans hB
          have eC := (i64_and1 n).trans hC
          have eD := (i64_and1 (r7 / 8)).trans hD
          clear hO hB hC hD
          go_wp2
          exact ⟨⟨1, by omega, rfl, by rw [show T.out _ 1 = (tout 0 n r7 1 8 r8 (r13 % 16) es) from rfl, HO.out], nd, rfl⟩, by simp [intOf]⟩
    · rw [show T.out ⟨r0, r1, r2, r3, r4, r5, r6, r7, r8, r9, r10, r11, r12, r13, c0, c1, c2, b0, b1, b2, nc, n, ec, es⟩ 1 = (tout b0 n r7 1 8 r8 (r13 % 16) es) from rfl]
      have g7 : w.cell? ⟨g, 7, none⟩ = some (iv r7) := (bkCell hT1 7).trans rfl
      have g9 : w.cell? ⟨g, 9, none⟩ = some (iv r9) := (bkCell hT1 9).trans rfl
      have g13 : w.cell? ⟨g, 13, none⟩ = some (iv r13) := (bkCell hT1 13).trans rfl
      have g18 : w.cell? ⟨g, 18, none⟩ = some (iv b1) := (bkCell hT1 18).trans rfl
      have g21 : w.cell? ⟨g, 21, none⟩ = some (iv n) := (bkCell hT1 21).trans rfl
      have g23 : w.cell? ⟨g, 23, none⟩ = some (iv es) := (bkCell hT1 23).trans rfl
      rcases (by omega : b1 = 1 ∨ b1 = 0 ∧ (r7 / 2) % 2 = 1 ∨ b1 = 0 ∧ (r7 / 2) % 2 = 0) with rfl | ⟨rfl, hB⟩ | ⟨rfl, hB⟩
      · rcases (by omega : n % 2 = 1 ∨ n % 2 = 0 ∧ (r7 / 16) % 2 = 1 ∨ n % 2 = 0 ∧ (r7 / 16) % 2 = 0) with hC | ⟨hC, hD⟩ | ⟨hC, hD⟩
        · rcases (by omega : r9 / 16 % 2 = 1 ∨ r9 / 16 % 2 = 0) with hE | hE
          · have hO : (tout 1 n r7 2 16 r9 (r13 % 16) es) = lvl (shv (r13 % 16) es / 2) := by simp [tout, onB, vol, hC, hE]
            have HO := Lib.hid hO
            have eC := (i64_and1 n).trans hC
            have eE := and16 r9 or9 pr9
            rw [hE] at eE
            clear hO hC hE
            have hv0 : 0 ≤ (shv (r13 % 16) es / 2) := by omega
            have hv1 : (shv (r13 % 16) es / 2) < 16 := by omega
            obtain ⟨hl0, hl1⟩ := lvl_bd (shv (r13 % 16) es / 2)
            have gL : w.cell? ⟨h, (shv (r13 % 16) es / 2).toNat, none⟩ = some (iv (lvl (shv (r13 % 16) es / 2))) := (bkCell hL _).trans (lvL_at _ hv0 hv1)
            have tm : r13.tmod 16 = r13 % 16 := Int.tmod_eq_emod_of_nonneg or13
            have td : (shv (r13 % 16) es).tdiv 2 = shv (r13 % 16) es / 2 := Int.tdiv_eq_ediv_of_nonneg sh0
            have tw : wrap64 (shv (r13 % 16) es / 2) = shv (r13 % 16) es / 2 := by unfold wrap64; omega
            go_wp2
            refine start_ (n := 15) (S := fun w' => w'.cell? ⟨g, 13, none⟩ = some (iv r13) ∧ w'.cell? ⟨g, 23, none⟩ = some (iv es) ∧ ∃ m, w' = w.drewN m) (ds := []) #[false, false, false, false, false, false, false, false, false, false, false, false, false, false, false] (by kernel_rfl) rfl rfl ⟨g13, g23, ⟨nd + 1, by first | rfl | (simp [World.drewN, World.drew, Nat.add_assoc]; done)⟩⟩ (fun hHeld => ?_)
            refine pure_ (i := 0) (N := some 78) (v := ?_) (a' := ?_) #[true, false, false, false, false, false, false, false, false, false, false, false, false, false, false] rfl rfl (by kernel_rfl) (fun _ _ _ h => h) (Or.inl ⟨by rfl, ?_⟩) ?_ ?_
            rotate_left
            · intro w'
              go_simp
              with_reducible rfl
            rotate_left
            · simp only [Act.put, List.setIfInBounds_toArray, List.set_cons_zero, List.set_cons_succ, i64_w, i32_w, tm, td, tw]
              rfl
            refine pure_ (i := 1) (N := some 79) (v := ?_) (a' := ?_) #[true, true, false, false, false, false, false, false, false, false, false, false, false, false, false] rfl rfl (by kernel_rfl) (fun _ _ _ h => h) (Or.inl ⟨by rfl, ?_⟩) ?_ ?_
            rotate_left
            · intro w'
              go_simp
              with_reducible rfl
            rotate_left
            · simp only [Act.put, List.setIfInBounds_toArray, List.set_cons_zero, List.set_cons_succ, i64_w, i32_w, tm, td, tw]
              rfl
            refine pure_ (i := 2) (N := some 80) (v := ?_) (a' := ?_) #[true, true, true, false, false, false, false, false, false, false, false, false, false, false, false] rfl rfl (by kernel_rfl) (fun _ _ _ h => h) (Or.inl ⟨by rfl, ?_⟩) ?_ ?_
            rotate_left
            · intro w'
              go_simp
              with_reducible rfl
            rotate_left
            · simp only [Act.put, List.setIfInBounds_toArray, List.set_cons_zero, List.set_cons_succ, i64_w, i32_w, tm, td, tw]
              rfl
            refine pure_ (i := 3) (N := some 81) (v := ?_) (a' := ?_) #[true, true, true, true, false, false, false, false, false, false, false, false, false, false, false] rfl rfl (by kernel_rfl) (fun _ _ _ h => h) (Or.inl ⟨by rfl, ?_⟩) ?_ ?_
            rotate_left
            · intro w'
              go_simp
              with_reducible rfl
            rotate_left
            · simp only [Act.put, List.setIfInBounds_toArray, List.set_cons_zero, List.set_cons_succ, i64_w, i32_w, tm, td, tw]
              rfl
            refine pure_ (i := 4) (N := some 82) (v := ?_) (a' := ?_) #[true, true, true, true, true, false, false, false, false, false, false, false, false, false, false] rfl rfl (by kernel_rfl) (fun _ _ _ h => h) (Or.inl ⟨by rfl, ?_⟩) ?_ ?_
            rotate_left
            · intro w'
              go_simp
              with_reducible rfl
            rotate_left
            · simp only [Act.put, List.setIfInBounds_toArray, List.set_cons_zero, List.set_cons_succ, i64_w, i32_w, tm, td, tw]
              rfl
            refine pure_ (i := 7) (N := some 85) (v := ?_) (a' := ?_) #[true, true, true, true, true, false, false, true, false, false, false, false, false, false, false] rfl rfl (by kernel_rfl) (fun _ _ _ h => h) (Or.inl ⟨by rfl, ?_⟩) ?_ ?_
            rotate_left
            · intro w'
              go_simp
              with_reducible rfl
            rotate_left
            · simp only [Act.put, List.setIfInBounds_toArray, List.set_cons_zero, List.set_cons_succ, i64_w, i32_w, tm, td, tw]
              rfl
            refine pure_ (i := 8) (N := some 86) (v := ?_) (a' := ?_) #[true, true, true, true, true, false, false, true, true, false, false, false, false, false, false] rfl rfl (by kernel_rfl) (fun _ _ _ h => h) (Or.inl ⟨by rfl, ?_⟩) ?_ ?_
            rotate_left
            · intro w'
              go_simp
              with_reducible rfl
            rotate_left
            · simp only [Act.put, List.setIfInBounds_toArray, List.set_cons_zero, List.set_cons_succ, i64_w, i32_w, tm, td, tw]
              rfl
            refine pure_ (i := 9) (N := some 87) (v := ?_) (a' := ?_) #[true, true, true, true, true, false, false, true, true, true, false, false, false, false, false] rfl rfl (by kernel_rfl) (fun _ _ _ h => h) (Or.inl ⟨by rfl, ?_⟩) ?_ ?_
            rotate_left
            · intro w'
              go_simp
              with_reducible rfl
            rotate_left
            · simp only [Act.put, List.setIfInBounds_toArray, List.set_cons_zero, List.set_cons_succ, i64_w, i32_w, tm, td, tw]
              rfl
            refine pure_ (i := 10) (N := some 88) (v := ?_) (a' := ?_) #[true, true, true, true, true, false, false, true, true, true, true, false, false, false, false] rfl rfl (by kernel_rfl) (fun _ _ _ h => h) (Or.inl ⟨by rfl, ?_⟩) ?_ ?_
            rotate_left
            · intro w'
              go_simp
              with_reducible rfl
            rotate_left
            · simp only [Act.put, List.setIfInBounds_toArray, List.set_cons_zero, List.set_cons_succ, i64_w, i32_w, tm, td, tw]
              rfl
            refine take_ (i := 5) (N := some 83) (v := ?_) (a' := ?_) #[true, true, true, true, true, true, false, true, true, true, true, false, false, false, false] rfl rfl (by kernel_rfl) (fun _ _ _ h => h) (Or.inl ⟨by rfl, ?_⟩) hHeld ?_ ?_
            rotate_left
            · rintro w' ⟨s0, s1, s2⟩
              go_simp
              with_reducible rfl
            rotate_left
            · simp only [Act.put, List.setIfInBounds_toArray, List.set_cons_zero, List.set_cons_succ, i64_w, i32_w, tm, td, tw]
              rfl
            refine pure_ (i := 6) (N := some 84) (v := ?_) (a' := ?_) #[true, true, true, true, true, true, true, true, true, true, true, false, false, false, false] rfl rfl (by kernel_rfl) (fun _ _ _ h => h) (Or.inl ⟨by rfl, ?_⟩) ?_ ?_
            rotate_left
            · intro w'
              go_simp
              with_reducible rfl
            rotate_left
            · simp only [Act.put, List.setIfInBounds_toArray, List.set_cons_zero, List.set_cons_succ, i64_w, i32_w, tm, td, tw]
              rfl
            refine take_ (i := 11) (N := some 89) (v := ?_) (a' := ?_) #[true, true, true, true, true, true, true, true, true, true, true, true, false, false, false] rfl rfl (by kernel_rfl) (fun _ _ _ h => h) (Or.inl ⟨by rfl, ?_⟩) hHeld ?_ ?_
            rotate_left
            · rintro w' ⟨s0, s1, s2⟩
              go_simp
              with_reducible rfl
            rotate_left
            · simp only [Act.put, List.setIfInBounds_toArray, List.set_cons_zero, List.set_cons_succ, i64_w, i32_w, tm, td, tw]
              rfl
            refine one_ (i := 12) (N := some 90) #[true, true, true, true, true, true, true, true, true, true, true, true, true, false, false] rfl rfl (by kernel_rfl) (by decide) (fun K hK => ?_)
            refine goes_ Try.func36 (by kernel_rfl) rfl #[iv (r13 % 16), iv es] (by rfl) rfl rfl (by simp only [List.map_toArray, List.map_cons, List.map_nil]; rfl) ?_
            with_reducible refine (shaped_any _ _ _ (by omega) (by omega) oes pes).mono ?_
            rintro e w4 ⟨rfl, rfl⟩
            refine ⟨_, rfl, ?_⟩
            refine hK.out _ _ ⟨hHeld.1, hHeld.2.1, hHeld.2.2⟩ (fun hHeld => ?_)
            clear hK K
            refine norm_ (a' := ?_) ?_ ?_
            rotate_left
            · show Act.put _ (some 90) _ = _
              simp only [Act.put, List.setIfInBounds_toArray, List.set_cons_zero, List.set_cons_succ, i64_w, i32_w, tm, td, tw]
              rfl
            refine pure_ (i := 13) (N := some 91) (v := ?_) (a' := ?_) #[true, true, true, true, true, true, true, true, true, true, true, true, true, true, false] rfl rfl (by kernel_rfl) (fun _ _ _ h => h) (Or.inl ⟨by rfl, ?_⟩) ?_ ?_
            rotate_left
            · intro w'
              go_simp
              with_reducible rfl
            rotate_left
            · simp only [Act.put, List.setIfInBounds_toArray, List.set_cons_zero, List.set_cons_succ, i64_w, i32_w, tm, td, tw]
              rfl
            refine pure_ (i := 14) (N := some 9) (v := ?_) (a' := ?_) #[true, true, true, true, true, true, true, true, true, true, true, true, true, true, true] rfl rfl (by kernel_rfl) (fun _ _ _ h => h) (Or.inl ⟨by rfl, ?_⟩) ?_ ?_
            rotate_left
            · intro w'
              go_simp
              with_reducible rfl
            rotate_left
            · simp only [Act.put, List.setIfInBounds_toArray, List.set_cons_zero, List.set_cons_succ, i64_w, i32_w, tm, td, tw]
              rfl
            refine done_ (by kernel_rfl) ?_
            obtain ⟨_, _, mw, hmw⟩ := hHeld
            clear tm td tw
            go_wp2
            exact ⟨⟨2, by omega, rfl, by rw [show T.out _ 2 = (tout b0 n r7 1 8 r8 (r13 % 16) es) + (tout 1 n r7 2 16 r9 (r13 % 16) es) from rfl, HO.out], mw, by first | rfl | exact hmw⟩, by simp [intOf]⟩
          · have hO : (tout 1 n r7 2 16 r9 (r13 % 16) es) = lvl (r9 % 16) := by simp [tout, onB, vol, hC, hE]
            have HO := Lib.hid hO
            have eC := (i64_and1 n).trans hC
            have eE := and16 r9 or9 pr9
            rw [hE] at eE
            clear hO hC hE
            have hv0 : 0 ≤ (r9 % 16) := by omega
            have hv1 : (r9 % 16) < 16 := by omega
            obtain ⟨hl0, hl1⟩ := lvl_bd (r9 % 16)
            have gL : w.cell? ⟨h, (r9 % 16).toNat, none⟩ = some (iv (lvl (r9 % 16))) := (bkCell hL _).trans (lvL_at _ hv0 hv1)
            go_wp2
            exact ⟨⟨2, by omega, rfl, by rw [show T.out _ 2 = (tout b0 n r7 1 8 r8 (r13 % 16) es) + (tout 1 n r7 2 16 r9 (r13 % 16) es) from rfl, HO.out], nd, rfl⟩, by simp [intOf]⟩
        · rcases (by omega : r9 / 16 % 2 = 1 ∨ r9 / 16 % 2 = 0) with hE | hE
          · have hO : (tout 1 n r7 2 16 r9 (r13 % 16) es) = lvl (shv (r13 % 16) es / 2) := by simp [tout, onB, vol, hC, hD, hE]
            have HO := Lib.hid hO
            have eC := (i64_and1 n).trans hC
            have eD := (i64_and1 (r7 / 16)).trans hD
            have eE := and16 r9 or9 pr9
            rw [hE] at eE
            clear hO hC hD hE
            have hv0 : 0 ≤ (shv (r13 % 16) es / 2) := by omega
            have hv1 : (shv (r13 % 16) es / 2) < 16 := by omega
            obtain ⟨hl0, hl1⟩ := lvl_bd (shv (r13 % 16) es / 2)
            have gL : w.cell? ⟨h, (shv (r13 % 16) es / 2).toNat, none⟩ = some (iv (lvl (shv (r13 % 16) es / 2))) := (bkCell hL _).trans (lvL_at _ hv0 hv1)
            have tm : r13.tmod 16 = r13 % 16 := Int.tmod_eq_emod_of_nonneg or13
            have td : (shv (r13 % 16) es).tdiv 2 = shv (r13 % 16) es / 2 := Int.tdiv_eq_ediv_of_nonneg sh0
            have tw : wrap64 (shv (r13 % 16) es / 2) = shv (r13 % 16) es / 2 := by unfold wrap64; omega
            go_wp2
            refine start_ (n := 15) (S := fun w' => w'.cell? ⟨g, 13, none⟩ = some (iv r13) ∧ w'.cell? ⟨g, 23, none⟩ = some (iv es) ∧ ∃ m, w' = w.drewN m) (ds := []) #[false, false, false, false, false, false, false, false, false, false, false, false, false, false, false] (by kernel_rfl) rfl rfl ⟨g13, g23, ⟨nd + 1, by first | rfl | (simp [World.drewN, World.drew, Nat.add_assoc]; done)⟩⟩ (fun hHeld => ?_)
            refine pure_ (i := 0) (N := some 78) (v := ?_) (a' := ?_) #[true, false, false, false, false, false, false, false, false, false, false, false, false, false, false] rfl rfl (by kernel_rfl) (fun _ _ _ h => h) (Or.inl ⟨by rfl, ?_⟩) ?_ ?_
            rotate_left
            · intro w'
              go_simp
              with_reducible rfl
            rotate_left
            · simp only [Act.put, List.setIfInBounds_toArray, List.set_cons_zero, List.set_cons_succ, i64_w, i32_w, tm, td, tw]
              rfl
            refine pure_ (i := 1) (N := some 79) (v := ?_) (a' := ?_) #[true, true, false, false, false, false, false, false, false, false, false, false, false, false, false] rfl rfl (by kernel_rfl) (fun _ _ _ h => h) (Or.inl ⟨by rfl, ?_⟩) ?_ ?_
            rotate_left
            · intro w'
              go_simp
              with_reducible rfl
            rotate_left
            · simp only [Act.put, List.setIfInBounds_toArray, List.set_cons_zero, List.set_cons_succ, i64_w, i32_w, tm, td, tw]
              rfl
            refine pure_ (i := 2) (N := some 80) (v := ?_) (a' := ?_) #[true, true, true, false, false, false, false, false, false, false, false, false, false, false, false] rfl rfl (by kernel_rfl) (fun _ _ _ h => h) (Or.inl ⟨by rfl, ?_⟩) ?_ ?_
            rotate_left
            · intro w'
              go_simp
              with_reducible rfl
            rotate_left
            · simp only [Act.put, List.setIfInBounds_toArray, List.set_cons_zero, List.set_cons_succ, i64_w, i32_w, tm, td, tw]
              rfl
            refine pure_ (i := 3) (N := some 81) (v := ?_) (a' := ?_) #[true, true, true, true, false, false, false, false, false, false, false, false, false, false, false] rfl rfl (by kernel_rfl) (fun _ _ _ h => h) (Or.inl ⟨by rfl, ?_⟩) ?_ ?_
            rotate_left
            · intro w'
              go_simp
              with_reducible rfl
            rotate_left
            · simp only [Act.put, List.setIfInBounds_toArray, List.set_cons_zero, List.set_cons_succ, i64_w, i32_w, tm, td, tw]
              rfl
            refine pure_ (i := 4) (N := some 82) (v := ?_) (a' := ?_) #[true, true, true, true, true, false, false, false, false, false, false, false, false, false, false] rfl rfl (by kernel_rfl) (fun _ _ _ h => h) (Or.inl ⟨by rfl, ?_⟩) ?_ ?_
            rotate_left
            · intro w'
              go_simp
              with_reducible rfl
            rotate_left
            · simp only [Act.put, List.setIfInBounds_toArray, List.set_cons_zero, List.set_cons_succ, i64_w, i32_w, tm, td, tw]
              rfl
            refine pure_ (i := 7) (N := some 85) (v := ?_) (a' := ?_) #[true, true, true, true, true, false, false, true, false, false, false, false, false, false, false] rfl rfl (by kernel_rfl) (fun _ _ _ h => h) (Or.inl ⟨by rfl, ?_⟩) ?_ ?_
            rotate_left
            · intro w'
              go_simp
              with_reducible rfl
            rotate_left
            · simp only [Act.put, List.setIfInBounds_toArray, List.set_cons_zero, List.set_cons_succ, i64_w, i32_w, tm, td, tw]
              rfl
            refine pure_ (i := 8) (N := some 86) (v := ?_) (a' := ?_) #[true, true, true, true, true, false, false, true, true, false, false, false, false, false, false] rfl rfl (by kernel_rfl) (fun _ _ _ h => h) (Or.inl ⟨by rfl, ?_⟩) ?_ ?_
            rotate_left
            · intro w'
              go_simp
              with_reducible rfl
            rotate_left
            · simp only [Act.put, List.setIfInBounds_toArray, List.set_cons_zero, List.set_cons_succ, i64_w, i32_w, tm, td, tw]
              rfl
            refine pure_ (i := 9) (N := some 87) (v := ?_) (a' := ?_) #[true, true, true, true, true, false, false, true, true, true, false, false, false, false, false] rfl rfl (by kernel_rfl) (fun _ _ _ h => h) (Or.inl ⟨by rfl, ?_⟩) ?_ ?_
            rotate_left
            · intro w'
              go_simp
              with_reducible rfl
            rotate_left
            · simp only [Act.put, List.setIfInBounds_toArray, List.set_cons_zero, List.set_cons_succ, i64_w, i32_w, tm, td, tw]
              rfl
            refine pure_ (i := 10) (N := some 88) (v := ?_) (a' := ?_) #[true, true, true, true, true, false, false, true, true, true, true, false, false, false, false] rfl rfl (by kernel_rfl) (fun _ _ _ h => h) (Or.inl ⟨by rfl, ?_⟩) ?_ ?_
            rotate_left
            · intro w'
              go_simp
              with_reducible rfl
            rotate_left
            · simp only [Act.put, List.setIfInBounds_toArray, List.set_cons_zero, List.set_cons_succ, i64_w, i32_w, tm, td, tw]
              rfl
            refine take_ (i := 5) (N := some 83) (v := ?_) (a' := ?_) #[true, true, true, true, true, true, false, true, true, true, true, false, false, false, false] rfl rfl (by kernel_rfl) (fun _ _ _ h => h) (Or.inl ⟨by rfl, ?_⟩) hHeld ?_ ?_
            rotate_left
            · rintro w' ⟨s0, s1, s2⟩
              go_simp
              with_reducible rfl
            rotate_left
            · simp only [Act.put, List.setIfInBounds_toArray, List.set_cons_zero, List.set_cons_succ, i64_w, i32_w, tm, td, tw]
              rfl
            refine pure_ (i := 6) (N := some 84) (v := ?_) (a' := ?_) #[true, true, true, true, true, true, true, true, true, true, true, false, false, false, false] rfl rfl (by kernel_rfl) (fun _ _ _ h => h) (Or.inl ⟨by rfl, ?_⟩) ?_ ?_
            rotate_left
            · intro w'
              go_simp
              with_reducible rfl
            rotate_left
            · simp only [Act.put, List.setIfInBounds_toArray, List.set_cons_zero, List.set_cons_succ, i64_w, i32_w, tm, td, tw]
              rfl
            refine take_ (i := 11) (N := some 89) (v := ?_) (a' := ?_) #[true, true, true, true, true, true, true, true, true, true, true, true, false, false, false] rfl rfl (by kernel_rfl) (fun _ _ _ h => h) (Or.inl ⟨by rfl, ?_⟩) hHeld ?_ ?_
            rotate_left
            · rintro w' ⟨s0, s1, s2⟩
              go_simp
              with_reducible rfl
            rotate_left
            · simp only [Act.put, List.setIfInBounds_toArray, List.set_cons_zero, List.set_cons_succ, i64_w, i32_w, tm, td, tw]
              rfl
            refine one_ (i := 12) (N := some 90) #[true, true, true, true, true, true, true, true, true, true, true, true, true, false, false] rfl rfl (by kernel_rfl) (by decide) (fun K hK => ?_)
            refine goes_ Try.func36 (by kernel_rfl) rfl #[iv (r13 % 16), iv es] (by rfl) rfl rfl (by simp only [List.map_toArray, List.map_cons, List.map_nil]; rfl) ?_
            with_reducible refine (shaped_any _ _ _ (by omega) (by omega) oes pes).mono ?_
            rintro e w4 ⟨rfl, rfl⟩
            refine ⟨_, rfl, ?_⟩
            refine hK.out _ _ ⟨hHeld.1, hHeld.2.1, hHeld.2.2⟩ (fun hHeld => ?_)
            clear hK K
            refine norm_ (a' := ?_) ?_ ?_
            rotate_left
            · show Act.put _ (some 90) _ = _
              simp only [Act.put, List.setIfInBounds_toArray, List.set_cons_zero, List.set_cons_succ, i64_w, i32_w, tm, td, tw]
              rfl
            refine pure_ (i := 13) (N := some 91) (v := ?_) (a' := ?_) #[true, true, true, true, true, true, true, true, true, true, true, true, true, true, false] rfl rfl (by kernel_rfl) (fun _ _ _ h => h) (Or.inl ⟨by rfl, ?_⟩) ?_ ?_
            rotate_left
            · intro w'
              go_simp
              with_reducible rfl
            rotate_left
            · simp only [Act.put, List.setIfInBounds_toArray, List.set_cons_zero, List.set_cons_succ, i64_w, i32_w, tm, td, tw]
              rfl
            refine pure_ (i := 14) (N := some 9) (v := ?_) (a' := ?_) #[true, true, true, true, true, true, true, true, true, true, true, true, true, true, true] rfl rfl (by kernel_rfl) (fun _ _ _ h => h) (Or.inl ⟨by rfl, ?_⟩) ?_ ?_
            rotate_left
            · intro w'
              go_simp
              with_reducible rfl
            rotate_left
            · simp only [Act.put, List.setIfInBounds_toArray, List.set_cons_zero, List.set_cons_succ, i64_w, i32_w, tm, td, tw]
              rfl
            refine done_ (by kernel_rfl) ?_
            obtain ⟨_, _, mw, hmw⟩ := hHeld
            clear tm td tw
            go_wp2
            exact ⟨⟨2, by omega, rfl, by rw [show T.out _ 2 = (tout b0 n r7 1 8 r8 (r13 % 16) es) + (tout 1 n r7 2 16 r9 (r13 % 16) es) from rfl, HO.out], mw, by first | rfl | exact hmw⟩, by simp [intOf]⟩
          · have hO : (tout 1 n r7 2 16 r9 (r13 % 16) es) = lvl (r9 % 16) := by simp [tout, onB, vol, hC, hD, hE]
            have HO := Lib.hid hO
            have eC := (i64_and1 n).trans hC
            have eD := (i64_and1 (r7 / 16)).trans hD
            have eE := and16 r9 or9 pr9
            rw [hE] at eE
            clear hO hC hD hE
            have hv0 : 0 ≤ (r9 % 16) := by omega
            have hv1 : (r9 % 16) < 16 := by omega
            obtain ⟨hl0, hl1⟩ := lvl_bd (r9 % 16)
            have gL : w.cell? ⟨h, (r9 % 16).toNat, none⟩ = some (iv (lvl (r9 % 16))) := (bkCell hL _).trans (lvL_at _ hv0 hv1)
            go_wp2
            exact ⟨⟨2, by omega, rfl, by rw [show T.out _ 2 = (tout b0 n r7 1 8 r8 (r13 % 16) es) + (tout 1 n r7 2 16 r9 (r13 % 16) es) from rfl, HO.out], nd, rfl⟩, by simp [intOf]⟩
        · have hO : (tout 1 n r7 2 16 r9 (r13 % 16) es) = 0 := by simp [tout, onB, vol, hC, hD]
          have HO := Lib.hid hO
          have eC := (i64_and1 n).trans hC
          have eD := (i64_and1 (r7 / 16)).trans hD
          clear hO hC hD
          go_wp2
          exact ⟨⟨2, by omega, rfl, by rw [show T.out _ 2 = (tout b0 n r7 1 8 r8 (r13 % 16) es) + (tout 1 n r7 2 16 r9 (r13 % 16) es) from rfl, HO.out]; simp, nd, rfl⟩, by simp [intOf]⟩
      · rcases (by omega : n % 2 = 1 ∨ n % 2 = 0 ∧ (r7 / 16) % 2 = 1 ∨ n % 2 = 0 ∧ (r7 / 16) % 2 = 0) with hC | ⟨hC, hD⟩ | ⟨hC, hD⟩
        · rcases (by omega : r9 / 16 % 2 = 1 ∨ r9 / 16 % 2 = 0) with hE | hE
          · have hO : (tout 0 n r7 2 16 r9 (r13 % 16) es) = lvl (shv (r13 % 16) es / 2) := by simp [tout, onB, vol, hB, hC, hE]
            have HO := Lib.hid hO
            have eB := (i64_and1 (r7 / 2)).trans hB
            have eC := (i64_and1 n).trans hC
            have eE := and16 r9 or9 pr9
            rw [hE] at eE
            clear hO hB hC hE
            have hv0 : 0 ≤ (shv (r13 % 16) es / 2) := by omega
            have hv1 : (shv (r13 % 16) es / 2) < 16 := by omega
            obtain ⟨hl0, hl1⟩ := lvl_bd (shv (r13 % 16) es / 2)
            have gL : w.cell? ⟨h, (shv (r13 % 16) es / 2).toNat, none⟩ = some (iv (lvl (shv (r13 % 16) es / 2))) := (bkCell hL _).trans (lvL_at _ hv0 hv1)
            have tm : r13.tmod 16 = r13 % 16 := Int.tmod_eq_emod_of_nonneg or13
            have td : (shv (r13 % 16) es).tdiv 2 = shv (r13 % 16) es / 2 := Int.tdiv_eq_ediv_of_nonneg sh0
            have tw : wrap64 (shv (r13 % 16) es / 2) = shv (r13 % 16) es / 2 := by unfold wrap64; omega
            go_wp2
            refine start_ (n := 15) (S := fun w' => w'.cell? ⟨g, 13, none⟩ = some (iv r13) ∧ w'.cell? ⟨g, 23, none⟩ = some (iv es) ∧ ∃ m, w' = w.drewN m) (ds := []) #[false, false, false, false, false, false, false, false, false, false, false, false, false, false, false] (by kernel_rfl) rfl rfl ⟨g13, g23, ⟨nd + 1, by first | rfl | (simp [World.drewN, World.drew, Nat.add_assoc]; done)⟩⟩ (fun hHeld => ?_)
            refine pure_ (i := 0) (N := some 78) (v := ?_) (a' := ?_) #[true, false, false, false, false, false, false, false, false, false, false, false, false, false, false] rfl rfl (by kernel_rfl) (fun _ _ _ h => h) (Or.inl ⟨by rfl, ?_⟩) ?_ ?_
            rotate_left
            · intro w'
              go_simp
              with_reducible rfl
            rotate_left
            · simp only [Act.put, List.setIfInBounds_toArray, List.set_cons_zero, List.set_cons_succ, i64_w, i32_w, tm, td, tw]
              rfl
            refine pure_ (i := 1) (N := some 79) (v := ?_) (a' := ?_) #[true, true, false, false, false, false, false, false, false, false, false, false, false, false, false] rfl rfl (by kernel_rfl) (fun _ _ _ h => h) (Or.inl ⟨by rfl, ?_⟩) ?_ ?_
            rotate_left
            · intro w'
              go_simp
              with_reducible rfl
            rotate_left
            · simp only [Act.put, List.setIfInBounds_toArray, List.set_cons_zero, List.set_cons_succ, i64_w, i32_w, tm, td, tw]
              rfl
            refine pure_ (i := 2) (N := some 80) (v := ?_) (a' := ?_) #[true, true, true, false, false, false, false, false, false, false, false, false, false, false, false] rfl rfl (by kernel_rfl) (fun _ _ _ h => h) (Or.inl ⟨by rfl, ?_⟩) ?_ ?_
            rotate_left
            · intro w'
              go_simp
              with_reducible rfl
            rotate_left
            · simp only [Act.put, List.setIfInBounds_toArray, List.set_cons_zero, List.set_cons_succ, i64_w, i32_w, tm, td, tw]
              rfl
            refine pure_ (i := 3) (N := some 81) (v := ?_) (a' := ?_) #[true, true, true, true, false, false, false, false, false, false, false, false, false, false, false] rfl rfl (by kernel_rfl) (fun _ _ _ h => h) (Or.inl ⟨by rfl, ?_⟩) ?_ ?_
            rotate_left
            · intro w'
              go_simp
              with_reducible rfl
            rotate_left
            · simp only [Act.put, List.setIfInBounds_toArray, List.set_cons_zero, List.set_cons_succ, i64_w, i32_w, tm, td, tw]
              rfl
            refine pure_ (i := 4) (N := some 82) (v := ?_) (a' := ?_) #[true, true, true, true, true, false, false, false, false, false, false, false, false, false, false] rfl rfl (by kernel_rfl) (fun _ _ _ h => h) (Or.inl ⟨by rfl, ?_⟩) ?_ ?_
            rotate_left
            · intro w'
              go_simp
              with_reducible rfl
            rotate_left
            · simp only [Act.put, List.setIfInBounds_toArray, List.set_cons_zero, List.set_cons_succ, i64_w, i32_w, tm, td, tw]
              rfl
            refine pure_ (i := 7) (N := some 85) (v := ?_) (a' := ?_) #[true, true, true, true, true, false, false, true, false, false, false, false, false, false, false] rfl rfl (by kernel_rfl) (fun _ _ _ h => h) (Or.inl ⟨by rfl, ?_⟩) ?_ ?_
            rotate_left
            · intro w'
              go_simp
              with_reducible rfl
            rotate_left
            · simp only [Act.put, List.setIfInBounds_toArray, List.set_cons_zero, List.set_cons_succ, i64_w, i32_w, tm, td, tw]
              rfl
            refine pure_ (i := 8) (N := some 86) (v := ?_) (a' := ?_) #[true, true, true, true, true, false, false, true, true, false, false, false, false, false, false] rfl rfl (by kernel_rfl) (fun _ _ _ h => h) (Or.inl ⟨by rfl, ?_⟩) ?_ ?_
            rotate_left
            · intro w'
              go_simp
              with_reducible rfl
            rotate_left
            · simp only [Act.put, List.setIfInBounds_toArray, List.set_cons_zero, List.set_cons_succ, i64_w, i32_w, tm, td, tw]
              rfl
            refine pure_ (i := 9) (N := some 87) (v := ?_) (a' := ?_) #[true, true, true, true, true, false, false, true, true, true, false, false, false, false, false] rfl rfl (by kernel_rfl) (fun _ _ _ h => h) (Or.inl ⟨by rfl, ?_⟩) ?_ ?_
            rotate_left
            · intro w'
              go_simp
              with_reducible rfl
            rotate_left
            · simp only [Act.put, List.setIfInBounds_toArray, List.set_cons_zero, List.set_cons_succ, i64_w, i32_w, tm, td, tw]
              rfl
            refine pure_ (i := 10) (N := some 88) (v := ?_) (a' := ?_) #[true, true, true, true, true, false, false, true, true, true, true, false, false, false, false] rfl rfl (by kernel_rfl) (fun _ _ _ h => h) (Or.inl ⟨by rfl, ?_⟩) ?_ ?_
            rotate_left
            · intro w'
              go_simp
              with_reducible rfl
            rotate_left
            · simp only [Act.put, List.setIfInBounds_toArray, List.set_cons_zero, List.set_cons_succ, i64_w, i32_w, tm, td, tw]
              rfl
            refine take_ (i := 5) (N := some 83) (v := ?_) (a' := ?_) #[true, true, true, true, true, true, false, true, true, true, true, false, false, false, false] rfl rfl (by kernel_rfl) (fun _ _ _ h => h) (Or.inl ⟨by rfl, ?_⟩) hHeld ?_ ?_
            rotate_left
            · rintro w' ⟨s0, s1, s2⟩
              go_simp
              with_reducible rfl
            rotate_left
            · simp only [Act.put, List.setIfInBounds_toArray, List.set_cons_zero, List.set_cons_succ, i64_w, i32_w, tm, td, tw]
              rfl
            refine pure_ (i := 6) (N := some 84) (v := ?_) (a' := ?_) #[true, true, true, true, true, true, true, true, true, true, true, false, false, false, false] rfl rfl (by kernel_rfl) (fun _ _ _ h => h) (Or.inl ⟨by rfl, ?_⟩) ?_ ?_
            rotate_left
            · intro w'
              go_simp
              with_reducible rfl
            rotate_left
            · simp only [Act.put, List.setIfInBounds_toArray, List.set_cons_zero, List.set_cons_succ, i64_w, i32_w, tm, td, tw]
              rfl
            refine take_ (i := 11) (N := some 89) (v := ?_) (a' := ?_) #[true, true, true, true, true, true, true, true, true, true, true, true, false, false, false] rfl rfl (by kernel_rfl) (fun _ _ _ h => h) (Or.inl ⟨by rfl, ?_⟩) hHeld ?_ ?_
            rotate_left
            · rintro w' ⟨s0, s1, s2⟩
              go_simp
              with_reducible rfl
            rotate_left
            · simp only [Act.put, List.setIfInBounds_toArray, List.set_cons_zero, List.set_cons_succ, i64_w, i32_w, tm, td, tw]
              rfl
            refine one_ (i := 12) (N := some 90) #[true, true, true, true, true, true, true, true, true, true, true, true, true, false, false] rfl rfl (by kernel_rfl) (by decide) (fun K hK => ?_)
            refine goes_ Try.func36 (by kernel_rfl) rfl #[iv (r13 % 16), iv es] (by rfl) rfl rfl (by simp only [List.map_toArray, List.map_cons, List.map_nil]; rfl) ?_
            with_reducible refine (shaped_any _ _ _ (by omega) (by omega) oes pes).mono ?_
            rintro e w4 ⟨rfl, rfl⟩
            refine ⟨_, rfl, ?_⟩
            refine hK.out _ _ ⟨hHeld.1, hHeld.2.1, hHeld.2.2⟩ (fun hHeld => ?_)
            clear hK K
            refine norm_ (a' := ?_) ?_ ?_
            rotate_left
            · show Act.put _ (some 90) _ = _
              simp only [Act.put, List.setIfInBounds_toArray, List.set_cons_zero, List.set_cons_succ, i64_w, i32_w, tm, td, tw]
              rfl
            refine pure_ (i := 13) (N := some 91) (v := ?_) (a' := ?_) #[true, true, true, true, true, true, true, true, true, true, true, true, true, true, false] rfl rfl (by kernel_rfl) (fun _ _ _ h => h) (Or.inl ⟨by rfl, ?_⟩) ?_ ?_
            rotate_left
            · intro w'
              go_simp
              with_reducible rfl
            rotate_left
            · simp only [Act.put, List.setIfInBounds_toArray, List.set_cons_zero, List.set_cons_succ, i64_w, i32_w, tm, td, tw]
              rfl
            refine pure_ (i := 14) (N := some 9) (v := ?_) (a' := ?_) #[true, true, true, true, true, true, true, true, true, true, true, true, true, true, true] rfl rfl (by kernel_rfl) (fun _ _ _ h => h) (Or.inl ⟨by rfl, ?_⟩) ?_ ?_
            rotate_left
            · intro w'
              go_simp
              with_reducible rfl
            rotate_left
            · simp only [Act.put, List.setIfInBounds_toArray, List.set_cons_zero, List.set_cons_succ, i64_w, i32_w, tm, td, tw]
              rfl
            refine done_ (by kernel_rfl) ?_
            obtain ⟨_, _, mw, hmw⟩ := hHeld
            clear tm td tw
            go_wp2
            exact ⟨⟨2, by omega, rfl, by rw [show T.out _ 2 = (tout b0 n r7 1 8 r8 (r13 % 16) es) + (tout 0 n r7 2 16 r9 (r13 % 16) es) from rfl, HO.out], mw, by first | rfl | exact hmw⟩, by simp [intOf]⟩
          · have hO : (tout 0 n r7 2 16 r9 (r13 % 16) es) = lvl (r9 % 16) := by simp [tout, onB, vol, hB, hC, hE]
            have HO := Lib.hid hO
            have eB := (i64_and1 (r7 / 2)).trans hB
            have eC := (i64_and1 n).trans hC
            have eE := and16 r9 or9 pr9
            rw [hE] at eE
            clear hO hB hC hE
            have hv0 : 0 ≤ (r9 % 16) := by omega
            have hv1 : (r9 % 16) < 16 := by omega
            obtain ⟨hl0, hl1⟩ := lvl_bd (r9 % 16)
            have gL : w.cell? ⟨h, (r9 % 16).toNat, none⟩ = some (iv (lvl (r9 % 16))) := (bkCell hL _).trans (lvL_at _ hv0 hv1)
            go_wp2
            exact ⟨⟨2, by omega, rfl, by rw [show T.out _ 2 = (tout b0 n r7 1 8 r8 (r13 % 16) es) + (tout 0 n r7 2 16 r9 (r13 % 16) es) from rfl, HO.out], nd, rfl⟩, by simp [intOf]⟩
        · rcases (by omega : r9 / 16 % 2 = 1 ∨ r9 / 16 % 2 = 0) with hE | hE
          · have hO : (tout 0 n r7 2 16 r9 (r13 % 16) es) = lvl (shv (r13 % 16) es / 2) := by simp [tout, onB, vol, hB, hC, hD, hE]
            have HO := Lib.hid hO
            have eB := (i64_and1 (r7 / 2)).trans hB
            have eC := (i64_and1 n).trans hC
            have eD := (i64_and1 (r7 / 16)).trans hD
            have eE := and16 r9 or9 pr9
            rw [hE] at eE
            clear hO hB hC hD hE
            have hv0 : 0 ≤ (shv (r13 % 16) es / 2) := by omega
            have hv1 : (shv (r13 % 16) es / 2) < 16 := by omega
            obtain ⟨hl0, hl1⟩ := lvl_bd (shv (r13 % 16) es / 2)
            have gL : w.cell? ⟨h, (shv (r13 % 16) es / 2).toNat, none⟩ = some (iv (lvl (shv (r13 % 16) es / 2))) := (bkCell hL _).trans (lvL_at _ hv0 hv1)
            have tm : r13.tmod 16 = r13 % 16 := Int.tmod_eq_emod_of_nonneg or13
            have td : (shv (r13 % 16) es).tdiv 2 = shv (r13 % 16) es / 2 := Int.tdiv_eq_ediv_of_nonneg sh0
            have tw : wrap64 (shv (r13 % 16) es / 2) = shv (r13 % 16) es / 2 := by unfold wrap64; omega
            go_wp2
            refine start_ (n := 15) (S := fun w' => w'.cell? ⟨g, 13, none⟩ = some (iv r13) ∧ w'.cell? ⟨g, 23, none⟩ = some (iv es) ∧ ∃ m, w' = w.drewN m) (ds := []) #[false, false, false, false, false, false, false, false, false, false, false, false, false, false, false] (by kernel_rfl) rfl rfl ⟨g13, g23, ⟨nd + 1, by first | rfl | (simp [World.drewN, World.drew, Nat.add_assoc]; done)⟩⟩ (fun hHeld => ?_)
            refine pure_ (i := 0) (N := some 78) (v := ?_) (a' := ?_) #[true, false, false, false, false, false, false, false, false, false, false, false, false, false, false] rfl rfl (by kernel_rfl) (fun _ _ _ h => h) (Or.inl ⟨by rfl, ?_⟩) ?_ ?_
            rotate_left
            · intro w'
              go_simp
              with_reducible rfl
            rotate_left
            · simp only [Act.put, List.setIfInBounds_toArray, List.set_cons_zero, List.set_cons_succ, i64_w, i32_w, tm, td, tw]
              rfl
            refine pure_ (i := 1) (N := some 79) (v := ?_) (a' := ?_) #[true, true, false, false, false, false, false, false, false, false, false, false, false, false, false] rfl rfl (by kernel_rfl) (fun _ _ _ h => h) (Or.inl ⟨by rfl, ?_⟩) ?_ ?_
            rotate_left
            · intro w'
              go_simp
              with_reducible rfl
            rotate_left
            · simp only [Act.put, List.setIfInBounds_toArray, List.set_cons_zero, List.set_cons_succ, i64_w, i32_w, tm, td, tw]
              rfl
            refine pure_ (i := 2) (N := some 80) (v := ?_) (a' := ?_) #[true, true, true, false, false, false, false, false, false, false, false, false, false, false, false] rfl rfl (by kernel_rfl) (fun _ _ _ h => h) (Or.inl ⟨by rfl, ?_⟩) ?_ ?_
            rotate_left
            · intro w'
              go_simp
              with_reducible rfl
            rotate_left
            · simp only [Act.put, List.setIfInBounds_toArray, List.set_cons_zero, List.set_cons_succ, i64_w, i32_w, tm, td, tw]
              rfl
            refine pure_ (i := 3) (N := some 81) (v := ?_) (a' := ?_) #[true, true, true, true, false, false, false, false, false, false, false, false, false, false, false] rfl rfl (by kernel_rfl) (fun _ _ _ h => h) (Or.inl ⟨by rfl, ?_⟩) ?_ ?_
            rotate_left
            · intro w'
              go_simp
              with_reducible rfl
            rotate_left
            · simp only [Act.put, List.setIfInBounds_toArray, List.set_cons_zero, List.set_cons_succ, i64_w, i32_w, tm, td, tw]
              rfl
            refine pure_ (i := 4) (N := some 82) (v := ?_) (a' := ?_) #[true, true, true, true, true, false, false, false, false, false, false, false, false, false, false] rfl rfl (by kernel_rfl) (fun _ _ _ h => h) (Or.inl ⟨by rfl, ?_⟩) ?_ ?_
            rotate_left
            · intro w'
              go_simp
              with_reducible rfl
            rotate_left
            · simp only [Act.put, List.setIfInBounds_toArray, List.set_cons_zero, List.set_cons_succ, i64_w, i32_w, tm, td, tw]
              rfl
            refine pure_ (i := 7) (N := some 85) (v := ?_) (a' := ?_) #[true, true, true, true, true, false, false, true, false, false, false, false, false, false, false] rfl rfl (by kernel_rfl) (fun _ _ _ h => h) (Or.inl ⟨by rfl, ?_⟩) ?_ ?_
            rotate_left
            · intro w'
              go_simp
              with_reducible rfl
            rotate_left
            · simp only [Act.put, List.setIfInBounds_toArray, List.set_cons_zero, List.set_cons_succ, i64_w, i32_w, tm, td, tw]
              rfl
            refine pure_ (i := 8) (N := some 86) (v := ?_) (a' := ?_) #[true, true, true, true, true, false, false, true, true, false, false, false, false, false, false] rfl rfl (by kernel_rfl) (fun _ _ _ h => h) (Or.inl ⟨by rfl, ?_⟩) ?_ ?_
            rotate_left
            · intro w'
              go_simp
              with_reducible rfl
            rotate_left
            · simp only [Act.put, List.setIfInBounds_toArray, List.set_cons_zero, List.set_cons_succ, i64_w, i32_w, tm, td, tw]
              rfl
            refine pure_ (i := 9) (N := some 87) (v := ?_) (a' := ?_) #[true, true, true, true, true, false, false, true, true, true, false, false, false, false, false] rfl rfl (by kernel_rfl) (fun _ _ _ h => h) (Or.inl ⟨by rfl, ?_⟩) ?_ ?_
            rotate_left
            · intro w'
              go_simp
              with_reducible rfl
            rotate_left
            · simp only [Act.put, List.setIfInBounds_toArray, List.set_cons_zero, List.set_cons_succ, i64_w, i32_w, tm, td, tw]
              rfl
            refine pure_ (i := 10) (N := some 88) (v := ?_) (a' := ?_) #[true, true, true, true, true, false, false, true, true, true, true, false, false, false, false] rfl rfl (by kernel_rfl) (fun _ _ _ h => h) (Or.inl ⟨by rfl, ?_⟩) ?_ ?_
            rotate_left
            · intro w'
              go_simp
              with_reducible rfl
            rotate_left
            · simp only [Act.put, List.setIfInBounds_toArray, List.set_cons_zero, List.set_cons_succ, i64_w, i32_w, tm, td, tw]
              rfl
            refine take_ (i := 5) (N := some 83) (v := ?_) (a' := ?_) #[true, true, true, true, true, true, false, true, true, true, true, false, false, false, false] rfl rfl (by kernel_rfl) (fun _ _ _ h => h) (Or.inl ⟨by rfl, ?_⟩) hHeld ?_ ?_
            rotate_left
            · rintro w' ⟨s0, s1, s2⟩
              go_simp
              with_reducible rfl
            rotate_left
            · simp only [Act.put, List.setIfInBounds_toArray, List.set_cons_zero, List.set_cons_succ, i64_w, i32_w, tm, td, tw]
              rfl
            refine pure_ (i := 6) (N := some 84) (v := ?_) (a' := ?_) #[true, true, true, true, true, true, true, true, true, true, true, false, false, false, false] rfl rfl (by kernel_rfl) (fun _ _ _ h => h) (Or.inl ⟨by rfl, ?_⟩) ?_ ?_
            rotate_left
            · intro w'
              go_simp
              with_reducible rfl
            rotate_left
            · simp only [Act.put, List.setIfInBounds_toArray, List.set_cons_zero, List.set_cons_succ, i64_w, i32_w, tm, td, tw]
              rfl
            refine take_ (i := 11) (N := some 89) (v := ?_) (a' := ?_) #[true, true, true, true, true, true, true, true, true, true, true, true, false, false, false] rfl rfl (by kernel_rfl) (fun _ _ _ h => h) (Or.inl ⟨by rfl, ?_⟩) hHeld ?_ ?_
            rotate_left
            · rintro w' ⟨s0, s1, s2⟩
              go_simp
              with_reducible rfl
            rotate_left
            · simp only [Act.put, List.setIfInBounds_toArray, List.set_cons_zero, List.set_cons_succ, i64_w, i32_w, tm, td, tw]
              rfl
            refine one_ (i := 12) (N := some 90) #[true, true, true, true, true, true, true, true, true, true, true, true, true, false, false] rfl rfl (by kernel_rfl) (by decide) (fun K hK => ?_)
            refine goes_ Try.func36 (by kernel_rfl) rfl #[iv (r13 % 16), iv es] (by rfl) rfl rfl (by simp only [List.map_toArray, List.map_cons, List.map_nil]; rfl) ?_
            with_reducible refine (shaped_any _ _ _ (by omega) (by omega) oes pes).mono ?_
            rintro e w4 ⟨rfl, rfl⟩
            refine ⟨_, rfl, ?_⟩
            refine hK.out _ _ ⟨hHeld.1, hHeld.2.1, hHeld.2.2⟩ (fun hHeld => ?_)
            clear hK K
            refine norm_ (a' := ?_) ?_ ?_
            rotate_left
            · show Act.put _ (some 90) _ = _
              simp only [Act.put, List.setIfInBounds_toArray, List.set_cons_zero, List.set_cons_succ, i64_w, i32_w, tm, td, tw]
              rfl
            refine pure_ (i := 13) (N := some 91) (v := ?_) (a' := ?_) #[true, true, true, true, true, true, true, true, true, true, true, true, true, true, false] rfl rfl (by kernel_rfl) (fun _ _ _ h => h) (Or.inl ⟨by rfl, ?_⟩) ?_ ?_
            rotate_left
            · intro w'
              go_simp
              with_reducible rfl
            rotate_left
            · simp only [Act.put, List.setIfInBounds_toArray, List.set_cons_zero, List.set_cons_succ, i64_w, i32_w, tm, td, tw]
              rfl
            refine pure_ (i := 14) (N := some 9) (v := ?_) (a' := ?_) #[true, true, true, true, true, true, true, true, true, true, true, true, true, true, true] rfl rfl (by kernel_rfl) (fun _ _ _ h => h) (Or.inl ⟨by rfl, ?_⟩) ?_ ?_
            rotate_left
            · intro w'
              go_simp
              with_reducible rfl
            rotate_left
            · simp only [Act.put, List.setIfInBounds_toArray, List.set_cons_zero, List.set_cons_succ, i64_w, i32_w, tm, td, tw]
              rfl
            refine done_ (by kernel_rfl) ?_
            obtain ⟨_, _, mw, hmw⟩ := hHeld
            clear tm td tw
            go_wp2
            exact ⟨⟨2, by omega, rfl, by rw [show T.out _ 2 = (tout b0 n r7 1 8 r8 (r13 % 16) es) + (tout 0 n r7 2 16 r9 (r13 % 16) es) from rfl, HO.out], mw, by first | rfl | exact hmw⟩, by simp [intOf]⟩
          · have hO : (tout 0 n r7 2 16 r9 (r13 % 16) es) = lvl (r9 % 16) := by simp [tout, onB, vol, hB, hC, hD, hE]
            have HO := Lib.hid hO
            have eB := (i64_and1 (r7 / 2)).trans hB
            have eC := (i64_and1 n).trans hC
            have eD := (i64_and1 (r7 / 16)).trans hD
            have eE := and16 r9 or9 pr9
            rw [hE] at eE
            clear hO hB hC hD hE
            have hv0 : 0 ≤ (r9 % 16) := by omega
            have hv1 : (r9 % 16) < 16 := by omega
            obtain ⟨hl0, hl1⟩ := lvl_bd (r9 % 16)
            have gL : w.cell? ⟨h, (r9 % 16).toNat, none⟩ = some (iv (lvl (r9 % 16))) := (bkCell hL _).trans (lvL_at _ hv0 hv1)
            go_wp2
            exact ⟨⟨2, by omega, rfl, by rw [show T.out _ 2 = (tout b0 n r7 1 8 r8 (r13 % 16) es) + (tout 0 n r7 2 16 r9 (r13 % 16) es) from rfl, HO.out], nd, rfl⟩, by simp [intOf]⟩
        · have hO : (tout 0 n r7 2 16 r9 (r13 % 16) es) = 0 := by simp [tout, onB, vol, hB, hC, hD]
          have HO := Lib.hid hO
          have eB := (i64_and1 (r7 / 2)).trans hB
          have eC := (i64_and1 n).trans hC
          have eD := (i64_and1 (r7 / 16)).trans hD
          clear hO hB hC hD
          go_wp2
          exact ⟨⟨2, by omega, rfl, by rw [show T.out _ 2 = (tout b0 n r7 1 8 r8 (r13 % 16) es) + (tout 0 n r7 2 16 r9 (r13 % 16) es) from rfl, HO.out]; simp, nd, rfl⟩, by simp [intOf]⟩
      · rcases (by omega : n % 2 = 1 ∨ n % 2 = 0 ∧ (r7 / 16) % 2 = 1 ∨ n % 2 = 0 ∧ (r7 / 16) % 2 = 0) with hC | ⟨hC, hD⟩ | ⟨hC, hD⟩
        · have hO : (tout 0 n r7 2 16 r9 (r13 % 16) es) = 0 := by simp [tout, onB, vol, hB, hC]
          have HO := Lib.hid hO
          have eB := (i64_and1 (r7 / 2)).trans hB
          have eC := (i64_and1 n).trans hC
          clear hO hB hC
          go_wp2
          exact ⟨⟨2, by omega, rfl, by rw [show T.out _ 2 = (tout b0 n r7 1 8 r8 (r13 % 16) es) + (tout 0 n r7 2 16 r9 (r13 % 16) es) from rfl, HO.out]; simp, nd, rfl⟩, by simp [intOf]⟩
        · have hO : (tout 0 n r7 2 16 r9 (r13 % 16) es) = 0 := by simp [tout, onB, vol, hB, hC, hD]
          have HO := Lib.hid hO
          have eB := (i64_and1 (r7 / 2)).trans hB
          have eC := (i64_and1 n).trans hC
          have eD := (i64_and1 (r7 / 16)).trans hD
          clear hO hB hC hD
          go_wp2
          exact ⟨⟨2, by omega, rfl, by rw [show T.out _ 2 = (tout b0 n r7 1 8 r8 (r13 % 16) es) + (tout 0 n r7 2 16 r9 (r13 % 16) es) from rfl, HO.out]; simp, nd, rfl⟩, by simp [intOf]⟩
        · have hO : (tout 0 n r7 2 16 r9 (r13 % 16) es) = 0 := by simp [tout, onB, vol, hB, hC, hD]
          have HO := Lib.hid hO
          have eB := (i64_and1 (r7 / 2)).trans hB
          have eC := (i64_and1 n).trans hC
          have eD := (i64_and1 (r7 / 16)).trans hD
          clear hO hB hC hD
          go_wp2
          exact ⟨⟨2, by omega, rfl, by rw [show T.out _ 2 = (tout b0 n r7 1 8 r8 (r13 % 16) es) + (tout 0 n r7 2 16 r9 (r13 % 16) es) from rfl, HO.out]; simp, nd, rfl⟩, by simp [intOf]⟩
    · rw [show T.out ⟨r0, r1, r2, r3, r4, r5, r6, r7, r8, r9, r10, r11, r12, r13, c0, c1, c2, b0, b1, b2, nc, n, ec, es⟩ 2 = (tout b0 n r7 1 8 r8 (r13 % 16) es) + (tout b1 n r7 2 16 r9 (r13 % 16) es) from rfl]
      have g7 : w.cell? ⟨g, 7, none⟩ = some (iv r7) := (bkCell hT1 7).trans rfl
      have g10 : w.cell? ⟨g, 10, none⟩ = some (iv r10) := (bkCell hT1 10).trans rfl
      have g13 : w.cell? ⟨g, 13, none⟩ = some (iv r13) := (bkCell hT1 13).trans rfl
      have g19 : w.cell? ⟨g, 19, none⟩ = some (iv b2) := (bkCell hT1 19).trans rfl
      have g21 : w.cell? ⟨g, 21, none⟩ = some (iv n) := (bkCell hT1 21).trans rfl
      have g23 : w.cell? ⟨g, 23, none⟩ = some (iv es) := (bkCell hT1 23).trans rfl
      rcases (by omega : b2 = 1 ∨ b2 = 0 ∧ (r7 / 4) % 2 = 1 ∨ b2 = 0 ∧ (r7 / 4) % 2 = 0) with rfl | ⟨rfl, hB⟩ | ⟨rfl, hB⟩
      · rcases (by omega : n % 2 = 1 ∨ n % 2 = 0 ∧ (r7 / 32) % 2 = 1 ∨ n % 2 = 0 ∧ (r7 / 32) % 2 = 0) with hC | ⟨hC, hD⟩ | ⟨hC, hD⟩
        · rcases (by omega : r10 / 16 % 2 = 1 ∨ r10 / 16 % 2 = 0) with hE | hE
          · have hO : (tout 1 n r7 4 32 r10 (r13 % 16) es) = lvl (shv (r13 % 16) es / 2) := by simp [tout, onB, vol, hC, hE]
            have HO := Lib.hid hO
            have eC := (i64_and1 n).trans hC
            have eE := and16 r10 or10 pr10
            rw [hE] at eE
            clear hO hC hE
            have hv0 : 0 ≤ (shv (r13 % 16) es / 2) := by omega
            have hv1 : (shv (r13 % 16) es / 2) < 16 := by omega
            obtain ⟨hl0, hl1⟩ := lvl_bd (shv (r13 % 16) es / 2)
            have gL : w.cell? ⟨h, (shv (r13 % 16) es / 2).toNat, none⟩ = some (iv (lvl (shv (r13 % 16) es / 2))) := (bkCell hL _).trans (lvL_at _ hv0 hv1)
            have tm : r13.tmod 16 = r13 % 16 := Int.tmod_eq_emod_of_nonneg or13
            have td : (shv (r13 % 16) es).tdiv 2 = shv (r13 % 16) es / 2 := Int.tdiv_eq_ediv_of_nonneg sh0
            have tw : wrap64 (shv (r13 % 16) es / 2) = shv (r13 % 16) es / 2 := by unfold wrap64; omega
            go_wp2
            refine start_ (n := 15) (S := fun w' => w'.cell? ⟨g, 13, none⟩ = some (iv r13) ∧ w'.cell? ⟨g, 23, none⟩ = some (iv es) ∧ ∃ m, w' = w.drewN m) (ds := []) #[false, false, false, false, false, false, false, false, false, false, false, false, false, false, false] (by kernel_rfl) rfl rfl ⟨g13, g23, ⟨nd + 1, by first | rfl | (simp [World.drewN, World.drew, Nat.add_assoc]; done)⟩⟩ (fun hHeld => ?_)
            refine pure_ (i := 0) (N := some 78) (v := ?_) (a' := ?_) #[true, false, false, false, false, false, false, false, false, false, false, false, false, false, false] rfl rfl (by kernel_rfl) (fun _ _ _ h => h) (Or.inl ⟨by rfl, ?_⟩) ?_ ?_
            rotate_left
            · intro w'
              go_simp
              with_reducible rfl
            rotate_left
            · simp only [Act.put, List.setIfInBounds_toArray, List.set_cons_zero, List.set_cons_succ, i64_w, i32_w, tm, td, tw]
              rfl
            refine pure_ (i := 1) (N := some 79) (v := ?_) (a' := ?_) #[true, true, false, false, false, false, false, false, false, false, false, false, false, false, false] rfl rfl (by kernel_rfl) (fun _ _ _ h => h) (Or.inl ⟨by rfl, ?_⟩) ?_ ?_
            rotate_left
            · intro w'
              go_simp
              with_reducible rfl
            rotate_left
            · simp only [Act.put, List.setIfInBounds_toArray, List.set_cons_zero, List.set_cons_succ, i64_w, i32_w, tm, td, tw]
              rfl
            refine pure_ (i := 2) (N := some 80) (v := ?_) (a' := ?_) #[true, true, true, false, false, false, false, false, false, false, false, false, false, false, false] rfl rfl (by kernel_rfl) (fun _ _ _ h => h) (Or.inl ⟨by rfl, ?_⟩) ?_ ?_
            rotate_left
            · intro w'
              go_simp
              with_reducible rfl
            rotate_left
            · simp only [Act.put, List.setIfInBounds_toArray, List.set_cons_zero, List.set_cons_succ, i64_w, i32_w, tm, td, tw]
              rfl
            refine pure_ (i := 3) (N := some 81) (v := ?_) (a' := ?_) #[true, true, true, true, false, false, false, false, false, false, false, false, false, false, false] rfl rfl (by kernel_rfl) (fun _ _ _ h => h) (Or.inl ⟨by rfl, ?_⟩) ?_ ?_
            rotate_left
            · intro w'
              go_simp
              with_reducible rfl
            rotate_left
            · simp only [Act.put, List.setIfInBounds_toArray, List.set_cons_zero, List.set_cons_succ, i64_w, i32_w, tm, td, tw]
              rfl
            refine pure_ (i := 4) (N := some 82) (v := ?_) (a' := ?_) #[true, true, true, true, true, false, false, false, false, false, false, false, false, false, false] rfl rfl (by kernel_rfl) (fun _ _ _ h => h) (Or.inl ⟨by rfl, ?_⟩) ?_ ?_
            rotate_left
            · intro w'
              go_simp
              with_reducible rfl
            rotate_left
            · simp only [Act.put, List.setIfInBounds_toArray, List.set_cons_zero, List.set_cons_succ, i64_w, i32_w, tm, td, tw]
              rfl
            refine pure_ (i := 7) (N := some 85) (v := ?_) (a' := ?_) #[true, true, true, true, true, false, false, true, false, false, false, false, false, false, false] rfl rfl (by kernel_rfl) (fun _ _ _ h => h) (Or.inl ⟨by rfl, ?_⟩) ?_ ?_
            rotate_left
            · intro w'
              go_simp
              with_reducible rfl
            rotate_left
            · simp only [Act.put, List.setIfInBounds_toArray, List.set_cons_zero, List.set_cons_succ, i64_w, i32_w, tm, td, tw]
              rfl
            refine pure_ (i := 8) (N := some 86) (v := ?_) (a' := ?_) #[true, true, true, true, true, false, false, true, true, false, false, false, false, false, false] rfl rfl (by kernel_rfl) (fun _ _ _ h => h) (Or.inl ⟨by rfl, ?_⟩) ?_ ?_
            rotate_left
            · intro w'
              go_simp
              with_reducible rfl
            rotate_left
            · simp only [Act.put, List.setIfInBounds_toArray, List.set_cons_zero, List.set_cons_succ, i64_w, i32_w, tm, td, tw]
              rfl
            refine pure_ (i := 9) (N := some 87) (v := ?_) (a' := ?_) #[true, true, true, true, true, false, false, true, true, true, false, false, false, false, false] rfl rfl (by kernel_rfl) (fun _ _ _ h => h) (Or.inl ⟨by rfl, ?_⟩) ?_ ?_
            rotate_left
            · intro w'
              go_simp
              with_reducible rfl
            rotate_left
            · simp only [Act.put, List.setIfInBounds_toArray, List.set_cons_zero, List.set_cons_succ, i64_w, i32_w, tm, td, tw]
              rfl
            refine pure_ (i := 10) (N := some 88) (v := ?_) (a' := ?_) #[true, true, true, true, true, false, false, true, true, true, true, false, false, false, false] rfl rfl (by kernel_rfl) (fun _ _ _ h => h) (Or.inl ⟨by rfl, ?_⟩) ?_ ?_
            rotate_left
            · intro w'
              go_simp
              with_reducible rfl
            rotate_left
            · simp only [Act.put, List.setIfInBounds_toArray, List.set_cons_zero, List.set_cons_succ, i64_w, i32_w, tm, td, tw]
              rfl
            refine take_ (i := 5) (N := some 83) (v := ?_) (a' := ?_) #[true, true, true, true, true, true, false, true, true, true, true, false, false, false, false] rfl rfl (by kernel_rfl) (fun _ _ _ h => h) (Or.inl ⟨by rfl, ?_⟩) hHeld ?_ ?_
            rotate_left
            · rintro w' ⟨s0, s1, s2⟩
              go_simp
              with_reducible rfl
            rotate_left
            · simp only [Act.put, List.setIfInBounds_toArray, List.set_cons_zero, List.set_cons_succ, i64_w, i32_w, tm, td, tw]
              rfl
            refine pure_ (i := 6) (N := some 84) (v := ?_) (a' := ?_) #[true, true, true, true, true, true, true, true, true, true, true, false, false, false, false] rfl rfl (by kernel_rfl) (fun _ _ _ h => h) (Or.inl ⟨by rfl, ?_⟩) ?_ ?_
            rotate_left
            · intro w'
              go_simp
              with_reducible rfl
            rotate_left
            · simp only [Act.put, List.setIfInBounds_toArray, List.set_cons_zero, List.set_cons_succ, i64_w, i32_w, tm, td, tw]
              rfl
            refine take_ (i := 11) (N := some 89) (v := ?_) (a' := ?_) #[true, true, true, true, true, true, true, true, true, true, true, true, false, false, false] rfl rfl (by kernel_rfl) (fun _ _ _ h => h) (Or.inl ⟨by rfl, ?_⟩) hHeld ?_ ?_
            rotate_left
            · rintro w' ⟨s0, s1, s2⟩
              go_simp
              with_reducible rfl
            rotate_left
            · simp only [Act.put, List.setIfInBounds_toArray, List.set_cons_zero, List.set_cons_succ, i64_w, i32_w, tm, td, tw]
              rfl
            refine one_ (i := 12) (N := some 90) #[true, true, true, true, true, true, true, true, true, true, true, true, true, false, false] rfl rfl (by kernel_rfl) (by decide) (fun K hK => ?_)
            refine goes_ Try.func36 (by kernel_rfl) rfl #[iv (r13 % 16), iv es] (by rfl) rfl rfl (by simp only [List.map_toArray, List.map_cons, List.map_nil]; rfl) ?_
            with_reducible refine (shaped_any _ _ _ (by omega) (by omega) oes pes).mono ?_
            rintro e w4 ⟨rfl, rfl⟩
            refine ⟨_, rfl, ?_⟩
            refine hK.out _ _ ⟨hHeld.1, hHeld.2.1, hHeld.2.2⟩ (fun hHeld => ?_)
            clear hK K
            refine norm_ (a' := ?_) ?_ ?_
            rotate_left
            · show Act.put _ (some 90) _ = _
              simp only [Act.put, List.setIfInBounds_toArray, List.set_cons_zero, List.set_cons_succ, i64_w, i32_w, tm, td, tw]
              rfl
            refine pure_ (i := 13) (N := some 91) (v := ?_) (a' := ?_) #[true, true, true, true, true, true, true, true, true, true, true, true, true, true, false] rfl rfl (by kernel_rfl) (fun _ _ _ h => h) (Or.inl ⟨by rfl, ?_⟩) ?_ ?_
            rotate_left
            · intro w'
              go_simp
              with_reducible rfl
            rotate_left
            · simp only [Act.put, List.setIfInBounds_toArray, List.set_cons_zero, List.set_cons_succ, i64_w, i32_w, tm, td, tw]
              rfl
            refine pure_ (i := 14) (N := some 9) (v := ?_) (a' := ?_) #[true, true, true, true, true, true, true, true, true, true, true, true, true, true, true] rfl rfl (by kernel_rfl) (fun _ _ _ h => h) (Or.inl ⟨by rfl, ?_⟩) ?_ ?_
            rotate_left
            · intro w'
              go_simp
              with_reducible rfl
            rotate_left
            · simp only [Act.put, List.setIfInBounds_toArray, List.set_cons_zero, List.set_cons_succ, i64_w, i32_w, tm, td, tw]
              rfl
            refine done_ (by kernel_rfl) ?_
            obtain ⟨_, _, mw, hmw⟩ := hHeld
            clear tm td tw
            go_wp2
            exact ⟨⟨3, by omega, rfl, by rw [show T.out _ 3 = (tout b0 n r7 1 8 r8 (r13 % 16) es) + (tout b1 n r7 2 16 r9 (r13 % 16) es) + (tout 1 n r7 4 32 r10 (r13 % 16) es) from rfl, HO.out], mw, by first | rfl | exact hmw⟩, by simp [intOf]⟩
          · have hO : (tout 1 n r7 4 32 r10 (r13 % 16) es) = lvl (r10 % 16) := by simp [tout, onB, vol, hC, hE]
            have HO := Lib.hid hO
            have eC := (i64_and1 n).trans hC
            have eE := and16 r10 or10 pr10
            rw [hE] at eE
            clear hO hC hE
            have hv0 : 0 ≤ (r10 % 16) := by omega
            have hv1 : (r10 % 16) < 16 := by omega
            obtain ⟨hl0, hl1⟩ := lvl_bd (r10 % 16)
            have gL : w.cell? ⟨h, (r10 % 16).toNat, none⟩ = some (iv (lvl (r10 % 16))) := (bkCell hL _).trans (lvL_at _ hv0 hv1)
            go_wp2
            exact ⟨⟨3, by omega, rfl, by rw [show T.out _ 3 = (tout b0 n r7 1 8 r8 (r13 % 16) es) + (tout b1 n r7 2 16 r9 (r13 % 16) es) + (tout 1 n r7 4 32 r10 (r13 % 16) es) from rfl, HO.out], nd, rfl⟩, by simp [intOf]⟩
        · rcases (by omega : r10 / 16 % 2 = 1 ∨ r10 / 16 % 2 = 0) with hE | hE
          · have hO : (tout 1 n r7 4 32 r10 (r13 % 16) es) = lvl (shv (r13 % 16) es / 2) := by simp [tout, onB, vol, hC, hD, hE]
            have HO := Lib.hid hO
            have eC := (i64_and1 n).trans hC
            have eD := (i64_and1 (r7 / 32)).trans hD
            have eE := and16 r10 or10 pr10
            rw [hE] at eE
            clear hO hC hD hE
            have hv0 : 0 ≤ (shv (r13 % 16) es / 2) := by omega
            have hv1 : (shv (r13 % 16) es / 2) < 16 := by omega
            obtain ⟨hl0, hl1⟩ := lvl_bd (shv (r13 % 16) es / 2)
            have gL : w.cell? ⟨h, (shv (r13 % 16) es / 2).toNat, none⟩ = some (iv (lvl (shv (r13 % 16) es / 2))) := (bkCell hL _).trans (lvL_at _ hv0 hv1)
            have tm : r13.tmod 16 = r13 % 16 := Int.tmod_eq_emod_of_nonneg or13
            have td : (shv (r13 % 16) es).tdiv 2 = shv (r13 % 16) es / 2 := Int.tdiv_eq_ediv_of_nonneg sh0
            have tw : wrap64 (shv (r13 % 16) es / 2) = shv (r13 % 16) es / 2 := by unfold wrap64; omega
            go_wp2
            refine start_ (n := 15) (S := fun w' => w'.cell? ⟨g, 13, none⟩ = some (iv r13) ∧ w'.cell? ⟨g, 23, none⟩ = some (iv es) ∧ ∃ m, w' = w.drewN m) (ds := []) #[false, false, false, false, false, false, false, false, false, false, false, false, false, false, false] (by kernel_rfl) rfl rfl ⟨g13, g23, ⟨nd + 1, by first | rfl | (simp [World.drewN, World.drew, Nat.add_assoc]; done)⟩⟩ (fun hHeld => ?_)
            refine pure_ (i := 0) (N := some 78) (v := ?_) (a' := ?_) #[true, false, false, false, false, false, false, false, false, false, false, false, false, false, false] rfl rfl (by kernel_rfl) (fun _ _ _ h => h) (Or.inl ⟨by rfl, ?_⟩) ?_ ?_
            rotate_left
            · intro w'
              go_simp
              with_reducible rfl
            rotate_left
            · simp only [Act.put, List.setIfInBounds_toArray, List.set_cons_zero, List.set_cons_succ, i64_w, i32_w, tm, td, tw]
              rfl
            refine pure_ (i := 1) (N := some 79) (v := ?_) (a' := ?_) #[true, true, false, false, false, false, false, false, false, false, false, false, false, false, false] rfl rfl (by kernel_rfl) (fun _ _ _ h => h) (Or.inl ⟨by rfl, ?_⟩) ?_ ?_
            rotate_left
            · intro w'
              go_simp
              with_reducible rfl
            rotate_left
            · simp only [Act.put, List.setIfInBounds_toArray, List.set_cons_zero, List.set_cons_succ, i64_w, i32_w, tm, td, tw]
              rfl
            refine pure_ (i := 2) (N := some 80) (v := ?_) (a' := ?_) #[true, true, true, false, false, false, false, false, false, false, false, false, false, false, false] rfl rfl (by kernel_rfl) (fun _ _ _ h => h) (Or.inl ⟨by rfl, ?_⟩) ?_ ?_
            rotate_left
            · intro w'
              go_simp
              with_reducible rfl
            rotate_left
            · simp only [Act.put, List.setIfInBounds_toArray, List.set_cons_zero, List.set_cons_succ, i64_w, i32_w, tm, td, tw]
              rfl
            refine pure_ (i := 3) (N := some 81) (v := ?_) (a' := ?_) #[true, true, true, true, false, false, false, false, false, false, false, false, false, false, false] rfl rfl (by kernel_rfl) (fun _ _ _ h => h) (Or.inl ⟨by rfl, ?_⟩) ?_ ?_
            rotate_left
            · intro w'
              go_simp
              with_reducible rfl
            rotate_left
            · simp only [Act.put, List.setIfInBounds_toArray, List.set_cons_zero, List.set_cons_succ, i64_w, i32_w, tm, td, tw]
              rfl
            refine pure_ (i := 4) (N := some 82) (v := ?_) (a' := ?_) #[true, true, true, true, true, false, false, false, false, false, false, false, false, false, false] rfl rfl (by kernel_rfl) (fun _ _ _ h => h) (Or.inl ⟨by rfl, ?_⟩) ?_ ?_
            rotate_left
            · intro w'
              go_simp
              with_reducible rfl
            rotate_left
            · simp only [Act.put, List.setIfInBounds_toArray, List.set_cons_zero, List.set_cons_succ, i64_w, i32_w, tm, td, tw]
              rfl
            refine pure_ (i := 7) (N := some 85) (v := ?_) (a' := ?_) #[true, true, true, true, true, false, false, true, false, false, false, false, false, false, false] rfl rfl (by kernel_rfl) (fun _ _ _ h => h) (Or.inl ⟨by rfl, ?_⟩) ?_ ?_
            rotate_left
            · intro w'
              go_simp
              with_reducible rfl
            rotate_left
            · simp only [Act.put, List.setIfInBounds_toArray, List.set_cons_zero, List.set_cons_succ, i64_w, i32_w, tm, td, tw]
              rfl
            refine pure_ (i := 8) (N := some 86) (v := ?_) (a' := ?_) #[true, true, true, true, true, false, false, true, true, false, false, false, false, false, false] rfl rfl (by kernel_rfl) (fun _ _ _ h => h) (Or.inl ⟨by rfl, ?_⟩) ?_ ?_
            rotate_left
            · intro w'
              go_simp
              with_reducible rfl
            rotate_left
            · simp only [Act.put, List.setIfInBounds_toArray, List.set_cons_zero, List.set_cons_succ, i64_w, i32_w, tm, td, tw]
              rfl
            refine pure_ (i := 9) (N := some 87) (v := ?_) (a' := ?_) #[true, true, true, true, true, false, false, true, true, true, false, false, false, false, false] rfl rfl (by kernel_rfl) (fun _ _ _ h => h) (Or.inl ⟨by rfl, ?_⟩) ?_ ?_
            rotate_left
            · intro w'
              go_simp
              with_reducible rfl
            rotate_left
            · simp only [Act.put, List.setIfInBounds_toArray, List.set_cons_zero, List.set_cons_succ, i64_w, i32_w, tm, td, tw]
              rfl
            refine pure_ (i := 10) (N := some 88) (v := ?_) (a' := ?_) #[true, true, true, true, true, false, false, true, true, true, true, false, false, false, false] rfl rfl (by kernel_rfl) (fun _ _ _ h => h) (Or.inl ⟨by rfl, ?_⟩) ?_ ?_
            rotate_left
            · intro w'
              go_simp
              with_reducible rfl
            rotate_left
            · simp only [Act.put, List.setIfInBounds_toArray, List.set_cons_zero, List.set_cons_succ, i64_w, i32_w, tm, td, tw]
              rfl
            refine take_ (i := 5) (N := some 83) (v := ?_) (a' := ?_) #[true, true, true, true, true, true, false, true, true, true, true, false, false, false, false] rfl rfl (by kernel_rfl) (fun _ _ _ h => h) (Or.inl ⟨by rfl, ?_⟩) hHeld ?_ ?_
            rotate_left
            · rintro w' ⟨s0, s1, s2⟩
              go_simp
              with_reducible rfl
            rotate_left
            · simp only [Act.put, List.setIfInBounds_toArray, List.set_cons_zero, List.set_cons_succ, i64_w, i32_w, tm, td, tw]
              rfl
            refine pure_ (i := 6) (N := some 84) (v := ?_) (a' := ?_) #[true, true, true, true, true, true, true, true, true, true, true, false, false, false, false] rfl rfl (by kernel_rfl) (fun _ _ _ h => h) (Or.inl ⟨by rfl, ?_⟩) ?_ ?_
            rotate_left
            · intro w'
              go_simp
              with_reducible rfl
            rotate_left
            · simp only [Act.put, List.setIfInBounds_toArray, List.set_cons_zero, List.set_cons_succ, i64_w, i32_w, tm, td, tw]
              rfl
            refine take_ (i := 11) (N := some 89) (v := ?_) (a' := ?_) #[true, true, true, true, true, true, true, true, true, true, true, true, false, false, false] rfl rfl (by kernel_rfl) (fun _ _ _ h => h) (Or.inl ⟨by rfl, ?_⟩) hHeld ?_ ?_
            rotate_left
            · rintro w' ⟨s0, s1, s2⟩
              go_simp
              with_reducible rfl
            rotate_left
            · simp only [Act.put, List.setIfInBounds_toArray, List.set_cons_zero, List.set_cons_succ, i64_w, i32_w, tm, td, tw]
              rfl
            refine one_ (i := 12) (N := some 90) #[true, true, true, true, true, true, true, true, true, true, true, true, true, false, false] rfl rfl (by kernel_rfl) (by decide) (fun K hK => ?_)
            refine goes_ Try.func36 (by kernel_rfl) rfl #[iv (r13 % 16), iv es] (by rfl) rfl rfl (by simp only [List.map_toArray, List.map_cons, List.map_nil]; rfl) ?_
            with_reducible refine (shaped_any _ _ _ (by omega) (by omega) oes pes).mono ?_
            rintro e w4 ⟨rfl, rfl⟩
            refine ⟨_, rfl, ?_⟩
            refine hK.out _ _ ⟨hHeld.1, hHeld.2.1, hHeld.2.2⟩ (fun hHeld => ?_)
            clear hK K
            refine norm_ (a' := ?_) ?_ ?_
            rotate_left
            · show Act.put _ (some 90) _ = _
              simp only [Act.put, List.setIfInBounds_toArray, List.set_cons_zero, List.set_cons_succ, i64_w, i32_w, tm, td, tw]
              rfl
            refine pure_ (i := 13) (N := some 91) (v := ?_) (a' := ?_) #[true, true, true, true, true, true, true, true, true, true, true, true, true, true, false] rfl rfl (by kernel_rfl) (fun _ _ _ h => h) (Or.inl ⟨by rfl, ?_⟩) ?_ ?_
            rotate_left
            · intro w'
              go_simp
              with_reducible rfl
            rotate_left
            · simp only [Act.put, List.setIfInBounds_toArray, List.set_cons_zero, List.set_cons_succ, i64_w, i32_w, tm, td, tw]
              rfl
            refine pure_ (i := 14) (N := some 9) (v := ?_) (a' := ?_) #[true, true, true, true, true, true, true, true, true, true, true, true, true, true, true] rfl rfl (by kernel_rfl) (fun _ _ _ h => h) (Or.inl ⟨by rfl, ?_⟩) ?_ ?_
            rotate_left
            · intro w'
              go_simp
              with_reducible rfl
            rotate_left
            · simp only [Act.put, List.setIfInBounds_toArray, List.set_cons_zero, List.set_cons_succ, i64_w, i32_w, tm, td, tw]
              rfl
            refine done_ (by kernel_rfl) ?_
            obtain ⟨_, _, mw, hmw⟩ := hHeld
            clear tm td tw
            go_wp2
            exact ⟨⟨3, by omega, rfl, by rw [show T.out _ 3 = (tout b0 n r7 1 8 r8 (r13 % 16) es) + (tout b1 n r7 2 16 r9 (r13 % 16) es) + (tout 1 n r7 4 32 r10 (r13 % 16) es) from rfl, HO.out], mw, by first | rfl | exact hmw⟩, by simp [intOf]⟩
          · have hO : (tout 1 n r7 4 32 r10 (r13 % 16) es) = lvl (r10 % 16) := by simp [tout, onB, vol, hC, hD, hE]
            have HO := Lib.hid hO
            have eC := (i64_and1 n).trans hC
            have eD := (i64_and1 (r7 / 32)).trans hD
            have eE := and16 r10 or10 pr10
            rw [hE] at eE
            clear hO hC hD hE
            have hv0 : 0 ≤ (r10 % 16) := by omega
            have hv1 : (r10 % 16) < 16 := by omega
            obtain ⟨hl0, hl1⟩ := lvl_bd (r10 % 16)
            have gL : w.cell? ⟨h, (r10 % 16).toNat, none⟩ = some (iv (lvl (r10 % 16))) := (bkCell hL _).trans (lvL_at _ hv0 hv1)
            go_wp2
            exact ⟨⟨3, by omega, rfl, by rw [show T.out _ 3 = (tout b0 n r7 1 8 r8 (r13 % 16) es) + (tout b1 n r7 2 16 r9 (r13 % 16) es) + (tout 1 n r7 4 32 r10 (r13 % 16) es) from rfl, HO.out], nd, rfl⟩, by simp [intOf]⟩
        · have hO : (tout 1 n r7 4 32 r10 (r13 % 16) es) = 0 := by simp [tout, onB, vol, hC, hD]
          have HO := Lib.hid hO
          have eC := (i64_and1 n).trans hC
          have eD := (i64_and1 (r7 / 32)).trans hD
          clear hO hC hD
          go_wp2
          exact ⟨⟨3, by omega, rfl, by rw [show T.out _ 3 = (tout b0 n r7 1 8 r8 (r13 % 16) es) + (tout b1 n r7 2 16 r9 (r13 % 16) es) + (tout 1 n r7 4 32 r10 (r13 % 16) es) from rfl, HO.out]; simp, nd, rfl⟩, by simp [intOf]⟩
      · rcases (by omega : n % 2 = 1 ∨ n % 2 = 0 ∧ (r7 / 32) % 2 = 1 ∨ n % 2 = 0 ∧ (r7 / 32) % 2 = 0) with hC | ⟨hC, hD⟩ | ⟨hC, hD⟩
        · rcases (by omega : r10 / 16 % 2 = 1 ∨ r10 / 16 % 2 = 0) with hE | hE
          · have hO : (tout 0 n r7 4 32 r10 (r13 % 16) es) = lvl (shv (r13 % 16) es / 2) := by simp [tout, onB, vol, hB, hC, hE]
            have HO := Lib.hid hO
            have eB := (i64_and1 (r7 / 4)).trans hB
            have eC := (i64_and1 n).trans hC
            have eE := and16 r10 or10 pr10
            rw [hE] at eE
            clear hO hB hC hE
            have hv0 : 0 ≤ (shv (r13 % 16) es / 2) := by omega
            have hv1 : (shv (r13 % 16) es / 2) < 16 := by omega
            obtain ⟨hl0, hl1⟩ := lvl_bd (shv (r13 % 16) es / 2)
            have gL : w.cell? ⟨h, (shv (r13 % 16) es / 2).toNat, none⟩ = some (iv (lvl (shv (r13 % 16) es / 2))) := (bkCell hL _).trans (lvL_at _ hv0 hv1)
            have tm : r13.tmod 16 = r13 % 16 := Int.tmod_eq_emod_of_nonneg or13
            have td : (shv (r13 % 16) es).tdiv 2 = shv (r13 % 16) es / 2 := Int.tdiv_eq_ediv_of_nonneg sh0
            have tw : wrap64 (shv (r13 % 16) es / 2) = shv (r13 % 16) es / 2 := by unfold wrap64; omega
            go_wp2
            refine start_ (n := 15) (S := fun w' => w'.cell? ⟨g, 13, none⟩ = some (iv r13) ∧ w'.cell? ⟨g, 23, none⟩ = some (iv es) ∧ ∃ m, w' = w.drewN m) (ds := []) #[false, false, false, false, false, false, false, false, false, false, false, false, false, false, false] (by kernel_rfl) rfl rfl ⟨g13, g23, ⟨nd + 1, by first | rfl | (simp [World.drewN, World.drew, Nat.add_assoc]; done)⟩⟩ (fun hHeld => ?_)
            refine pure_ (i := 0) (N := some 78) (v := ?_) (a' := ?_) #[true, false, false, false, false, false, false, false, false, false, false, false, false, false, false] rfl rfl (by kernel_rfl) (fun _ _ _ h => h) (Or.inl ⟨by rfl, ?_⟩) ?_ ?_
            rotate_left
            · intro w'
              go_simp
              with_reducible rfl
            rotate_left
            · simp only [Act.put, List.setIfInBounds_toArray, List.set_cons_zero, List.set_cons_succ, i64_w, i32_w, tm, td, tw]
              rfl
            refine pure_ (i := 1) (N := some 79) (v := ?_) (a' := ?_) #[true, true, false, false, false, false, false, false, false, false, false, false, false, false, false] rfl rfl (by kernel_rfl) (fun _ _ _ h => h) (Or.inl ⟨by rfl, ?_⟩) ?_ ?_
            rotate_left
            · intro w'
              go_simp
              with_reducible rfl
            rotate_left
            · simp only [Act.put, List.setIfInBounds_toArray, List.set_cons_zero, List.set_cons_succ, i64_w, i32_w, tm, td, tw]
              rfl
            refine pure_ (i := 2) (N := some 80) (v := ?_) (a' := ?_) #[true, true, true, false, false, false, false, false, false, false, false, false, false, false, false] rfl rfl (by kernel_rfl) (fun _ _ _ h => h) (Or.inl ⟨by rfl, ?_⟩) ?_ ?_
            rotate_left
            · intro w'
              go_simp
              with_reducible rfl
            rotate_left
            · simp only [Act.put, List.setIfInBounds_toArray, List.set_cons_zero, List.set_cons_succ, i64_w, i32_w, tm, td, tw]
              rfl
            refine pure_ (i := 3) (N := some 81) (v := ?_) (a' := ?_) #[true, true, true, true, false, false, false, false, false, false, false, false, false, false, false] rfl rfl (by kernel_rfl) (fun _ _ _ h => h) (Or.inl ⟨by rfl, ?_⟩) ?_ ?_
            rotate_left
            · intro w'
              go_simp
              with_reducible rfl
            rotate_left
            · simp only [Act.put, List.setIfInBounds_toArray, List.set_cons_zero, List.set_cons_succ, i64_w, i32_w, tm, td, tw]
              rfl
            refine pure_ (i := 4) (N := some 82) (v := ?_) (a' := ?_) #[true, true, true, true, true, false, false, false, false, false, false, false, false, false, false] rfl rfl (by kernel_rfl) (fun _ _ _ h => h) (Or.inl ⟨by rfl, ?_⟩) ?_ ?_
            rotate_left
            · intro w'
              go_simp
              with_reducible rfl
            rotate_left
            · simp only [Act.put, List.setIfInBounds_toArray, List.set_cons_zero, List.set_cons_succ, i64_w, i32_w, tm, td, tw]
              rfl
            refine pure_ (i := 7) (N := some 85) (v := ?_) (a' := ?_) #[true, true, true, true, true, false, false, true, false, false, false, false, false, false, false] rfl rfl (by kernel_rfl) (fun _ _ _ h => h) (Or.inl ⟨by rfl, ?_⟩) ?_ ?_
            rotate_left
            · intro w'
              go_simp
              with_reducible rfl
            rotate_left
            · simp only [Act.put, List.setIfInBounds_toArray, List.set_cons_zero, List.set_cons_succ, i64_w, i32_w, tm, td, tw]
              rfl
            refine pure_ (i := 8) (N := some 86) (v := ?_) (a' := ?_) #[true, true, true, true, true, false, false, true, true, false, false, false, false, false, false] rfl rfl (by kernel_rfl) (fun _ _ _ h => h) (Or.inl ⟨by rfl, ?_⟩) ?_ ?_
            rotate_left
            · intro w'
              go_simp
              with_reducible rfl
            rotate_left
            · simp only [Act.put, List.setIfInBounds_toArray, List.set_cons_zero, List.set_cons_succ, i64_w, i32_w, tm, td, tw]
              rfl
            refine pure_ (i := 9) (N := some 87) (v := ?_) (a' := ?_) #[true, true, true, true, true, false, false, true, true, true, false, false, false, false, false] rfl rfl (by kernel_rfl) (fun _ _ _ h => h) (Or.inl ⟨by rfl, ?_⟩) ?_ ?_
            rotate_left
            · intro w'
              go_simp
              with_reducible rfl
            rotate_left
            · simp only [Act.put, List.setIfInBounds_toArray, List.set_cons_zero, List.set_cons_succ, i64_w, i32_w, tm, td, tw]
              rfl
            refine pure_ (i := 10) (N := some 88) (v := ?_) (a' := ?_) #[true, true, true, true, true, false, false, true, true, true, true, false, false, false, false] rfl rfl (by kernel_rfl) (fun _ _ _ h => h) (Or.inl ⟨by rfl, ?_⟩) ?_ ?_
            rotate_left
            · intro w'
              go_simp
              with_reducible rfl
            rotate_left
            · simp only [Act.put, List.setIfInBounds_toArray, List.set_cons_zero, List.set_cons_succ, i64_w, i32_w, tm, td, tw]
              rfl
            refine take_ (i := 5) (N := some 83) (v := ?_) (a' := ?_) #[true, true, true, true, true, true, false, true, true, true, true, false, false, false, false] rfl rfl (by kernel_rfl) (fun _ _ _ h => h) (Or.inl ⟨by rfl, ?_⟩) hHeld ?_ ?_
            rotate_left
            · rintro w' ⟨s0, s1, s2⟩
              go_simp
              with_reducible rfl
            rotate_left
            · simp only [Act.put, List.setIfInBounds_toArray, List.set_cons_zero, List.set_cons_succ, i64_w, i32_w, tm, td, tw]
              rfl
            refine pure_ (i := 6) (N := some 84) (v := ?_) (a' := ?_) #[true, true, true, true, true, true, true, true, true, true, true, false, false, false, false] rfl rfl (by kernel_rfl) (fun _ _ _ h => h) (Or.inl ⟨by rfl, ?_⟩) ?_ ?_
            rotate_left
            · intro w'
              go_simp
              with_reducible rfl
            rotate_left
            · simp only [Act.put, List.setIfInBounds_toArray, List.set_cons_zero, List.set_cons_succ, i64_w, i32_w, tm, td, tw]
              rfl
            refine take_ (i := 11) (N := some 89) (v := ?_) (a' := ?_) #[true, true, true, true, true, true, true, true, true, true, true, true, false, false, false] rfl rfl (by kernel_rfl) (fun _ _ _ h => h) (Or.inl ⟨by rfl, ?_⟩) hHeld ?_ ?_
            rotate_left
            · rintro w' ⟨s0, s1, s2⟩
              go_simp
              with_reducible rfl
            rotate_left
            · simp only [Act.put, List.setIfInBounds_toArray, List.set_cons_zero, List.set_cons_succ, i64_w, i32_w, tm, td, tw]
              rfl
            refine one_ (i := 12) (N := some 90) #[true, true, true, true, true, true, true, true, true, true, true, true, true, false, false] rfl rfl (by kernel_rfl) (by decide) (fun K hK => ?_)
            refine goes_ Try.func36 (by kernel_rfl) rfl #[iv (r13 % 16), iv es] (by rfl) rfl rfl (by simp only [List.map_toArray, List.map_cons, List.map_nil]; rfl) ?_
            with_reducible refine (shaped_any _ _ _ (by omega) (by omega) oes pes).mono ?_
            rintro e w4 ⟨rfl, rfl⟩
            refine ⟨_, rfl, ?_⟩
            refine hK.out _ _ ⟨hHeld.1, hHeld.2.1, hHeld.2.2⟩ (fun hHeld => ?_)
            clear hK K
            refine norm_ (a' := ?_) ?_ ?_
            rotate_left
            · show Act.put _ (some 90) _ = _
              simp only [Act.put, List.setIfInBounds_toArray, List.set_cons_zero, List.set_cons_succ, i64_w, i32_w, tm, td, tw]
              rfl
            refine pure_ (i := 13) (N := some 91) (v := ?_) (a' := ?_) #[true, true, true, true, true, true, true, true, true, true, true, true, true, true, false] rfl rfl (by kernel_rfl) (fun _ _ _ h => h) (Or.inl ⟨by rfl, ?_⟩) ?_ ?_
            rotate_left
            · intro w'
              go_simp
              with_reducible rfl
            rotate_left
            · simp only [Act.put, List.setIfInBounds_toArray, List.set_cons_zero, List.set_cons_succ, i64_w, i32_w, tm, td, tw]
              rfl
            refine pure_ (i := 14) (N := some 9) (v := ?_) (a' := ?_) #[true, true, true, true, true, true, true, true, true, true, true, true, true, true, true] rfl rfl (by kernel_rfl) (fun _ _ _ h => h) (Or.inl ⟨by rfl, ?_⟩) ?_ ?_
            rotate_left
            · intro w'
              go_simp
              with_reducible rfl
            rotate_left
            · simp only [Act.put, List.setIfInBounds_toArray, List.set_cons_zero, List.set_cons_succ, i64_w, i32_w, tm, td, tw]
              rfl
            refine done_ (by kernel_rfl) ?_
            obtain ⟨_, _, mw, hmw⟩ := hHeld
            clear tm td tw
            go_wp2
            exact ⟨⟨3, by omega, rfl, by rw [show T.out _ 3 = (tout b0 n r7 1 8 r8 (r13 % 16) es) + (tout b1 n r7 2 16 r9 (r13 % 16) es) + (tout 0 n r7 4 32 r10 (r13 % 16) es) from rfl, HO.out], mw, by first | rfl | exact hmw⟩, by simp [intOf]⟩
          · have hO : (tout 0 n r7 4 32 r10 (r13 % 16) es) = lvl (r10 % 16) := by simp [tout, onB, vol, hB, hC, hE]
            have HO := Lib.hid hO
            have eB := (i64_and1 (r7 / 4)).trans hB
            have eC := (i64_and1 n).trans hC
            have eE := and16 r10 or10 pr10
            rw [hE] at eE
            clear hO hB hC hE
            have hv0 : 0 ≤ (r10 % 16) := by omega
            have hv1 : (r10 % 16) < 16 := by omega
            obtain ⟨hl0, hl1⟩ := lvl_bd (r10 % 16)
            have gL : w.cell? ⟨h, (r10 % 16).toNat, none⟩ = some (iv (lvl (r10 % 16))) := (bkCell hL _).trans (lvL_at _ hv0 hv1)
            go_wp2
            exact ⟨⟨3, by omega, rfl, by rw [show T.out _ 3 = (tout b0 n r7 1 8 r8 (r13 % 16) es) + (tout b1 n r7 2 16 r9 (r13 % 16) es) + (tout 0 n r7 4 32 r10 (r13 % 16) es) from rfl, HO.out], nd, rfl⟩, by simp [intOf]⟩
        · rcases (by omega : r10 / 16 % 2 = 1 ∨ r10 / 16 % 2 = 0) with hE | hE
          · have hO : (tout 0 n r7 4 32 r10 (r13 % 16) es) = lvl (shv (r13 % 16) es / 2) := by simp [tout, onB, vol, hB, hC, hD, hE]
            have HO := Lib.hid hO
            have eB := (i64_and1 (r7 / 4)).trans hB
            have eC := (i64_and1 n).trans hC
            have eD := (i64_and1 (r7 / 32)).trans hD
            have eE := and16 r10 or10 pr10
            rw [hE] at eE
            clear hO hB hC hD hE
            have hv0 : 0 ≤ (shv (r13 % 16) es / 2) := by omega
            have hv1 : (shv (r13 % 16) es / 2) < 16 := by omega
            obtain ⟨hl0, hl1⟩ := lvl_bd (shv (r13 % 16) es / 2)
            have gL : w.cell? ⟨h, (shv (r13 % 16) es / 2).toNat, none⟩ = some (iv (lvl (shv (r13 % 16) es / 2))) := (bkCell hL _).trans (lvL_at _ hv0 hv1)
            have tm : r13.tmod 16 = r13 % 16 := Int.tmod_eq_emod_of_nonneg or13
            have td : (shv (r13 % 16) es).tdiv 2 = shv (r13 % 16) es / 2 := Int.tdiv_eq_ediv_of_nonneg sh0
            have tw : wrap64 (shv (r13 % 16) es / 2) = shv (r13 % 16) es / 2 := by unfold wrap64; omega
            go_wp2
            refine start_ (n := 15) (S := fun w' => w'.cell? ⟨g, 13, none⟩ = some (iv r13) ∧ w'.cell? ⟨g, 23, none⟩ = some (iv es) ∧ ∃ m, w' = w.drewN m) (ds := []) #[false, false, false, false, false, false, false, false, false, false, false, false, false, false, false] (by kernel_rfl) rfl rfl ⟨g13, g23, ⟨nd + 1, by first | rfl | (simp [World.drewN, World.drew, Nat.add_assoc]; done)⟩⟩ (fun hHeld => ?_)
            refine pure_ (i := 0) (N := some 78) (v := ?_) (a' := ?_) #[true, false, false, false, false, false, false, false, false, false, false, false, false, false, false] rfl rfl (by kernel_rfl) (fun _ _ _ h => h) (Or.inl ⟨by rfl, ?_⟩) ?_ ?_
            rotate_left
            · intro w'
              go_simp
              with_reducible rfl
            rotate_left
            · simp only [Act.put, List.setIfInBounds_toArray, List.set_cons_zero, List.set_cons_succ, i64_w, i32_w, tm, td, tw]
              rfl
            refine pure_ (i := 1) (N := some 79) (v := ?_) (a' := ?_) #[true, true, false, false, false, false, false, false, false, false, false, false, false, false, false] rfl rfl (by kernel_rfl) (fun _ _ _ h => h) (Or.inl ⟨by rfl, ?_⟩) ?_ ?_
            rotate_left
            · intro w'
              go_simp
              with_reducible rfl
            rotate_left
            · simp only [Act.put, List.setIfInBounds_toArray, List.set_cons_zero, List.set_cons_succ, i64_w, i32_w, tm, td, tw]
              rfl
            refine pure_ (i := 2) (N := some 80) (v := ?_) (a' := ?_) #[true, true, true, false, false, false, false, false, false, false, false, false, false, false, false] rfl rfl (by kernel_rfl) (fun _ _ _ h => h) (Or.inl ⟨by rfl, ?_⟩) ?_ ?_
            rotate_left
            · intro w'
              go_simp
              with_reducible rfl
            rotate_left
            · simp only [Act.put, List.setIfInBounds_toArray, List.set_cons_zero, List.set_cons_succ, i64_w, i32_w, tm, td, tw]
              rfl
            refine pure_ (i := 3) (N := some 81) (v := ?_) (a' := ?_) #[true, true, true, true, false, false, false, false, false, false, false, false, false, false, false] rfl rfl (by kernel_rfl) (fun _ _ _ h => h) (Or.inl ⟨by rfl, ?_⟩) ?_ ?_
            rotate_left
            · intro w'
              go_simp
              with_reducible rfl
            rotate_left
            · simp only [Act.put, List.setIfInBounds_toArray, List.set_cons_zero, List.set_cons_succ, i64_w, i32_w, tm, td, tw]
              rfl
            refine pure_ (i := 4) (N := some 82) (v := ?_) (a' := ?_) #[true, true, true, true, true, false, false, false, false, false, false, false, false, false, false] rfl rfl (by kernel_rfl) (fun _ _ _ h => h) (Or.inl ⟨by rfl, ?_⟩) ?_ ?_
            rotate_left
            · intro w'
              go_simp
              with_reducible rfl
            rotate_left
            · simp only [Act.put, List.setIfInBounds_toArray, List.set_cons_zero, List.set_cons_succ, i64_w, i32_w, tm, td, tw]
              rfl
            refine pure_ (i := 7) (N := some 85) (v := ?_) (a' := ?_) #[true, true, true, true, true, false, false, true, false, false, false, false, false, false, false] rfl rfl (by kernel_rfl) (fun _ _ _ h => h) (Or.inl ⟨by rfl, ?_⟩) ?_ ?_
            rotate_left
            · intro w'
              go_simp
              with_reducible rfl
            rotate_left
            · simp only [Act.put, List.setIfInBounds_toArray, List.set_cons_zero, List.set_cons_succ, i64_w, i32_w, tm, td, tw]
              rfl
            refine pure_ (i := 8) (N := some 86) (v := ?_) (a' := ?_) #[true, true, true, true, true, false, false, true, true, false, false, false, false, false, false] rfl rfl (by kernel_rfl) (fun _ _ _ h => h) (Or.inl ⟨by rfl, ?_⟩) ?_ ?_
            rotate_left
            · intro w'
              go_simp
              with_reducible rfl
            rotate_left
            · simp only [Act.put, List.setIfInBounds_toArray, List.set_cons_zero, List.set_cons_succ, i64_w, i32_w, tm, td, tw]
              rfl
            refine pure_ (i := 9) (N := some 87) (v := ?_) (a' := ?_) #[true, true, true, true, true, false, false, true, true, true, false, false, false, false, false] rfl rfl (by kernel_rfl) (fun _ _ _ h => h) (Or.inl ⟨by rfl, ?_⟩) ?_ ?_
            rotate_left
            · intro w'
              go_simp
              with_reducible rfl
            rotate_left
            · simp only [Act.put, List.setIfInBounds_toArray, List.set_cons_zero, List.set_cons_succ, i64_w, i32_w, tm, td, tw]
              rfl
            refine pure_ (i := 10) (N := some 88) (v := ?_) (a' := ?_) #[true, true, true, true, true, false, false, true, true, true, true, false, false, false, false] rfl rfl (by kernel_rfl) (fun _ _ _ h => h) (Or.inl ⟨by rfl, ?_⟩) ?_ ?_
            rotate_left
            · intro w'
              go_simp
              with_reducible rfl
            rotate_left
            · simp only [Act.put, List.setIfInBounds_toArray, List.set_cons_zero, List.set_cons_succ, i64_w, i32_w, tm, td, tw]
              rfl
            refine take_ (i := 5) (N := some 83) (v := ?_) (a' := ?_) #[true, true, true, true, true, true, false, true, true, true, true, false, false, false, false] rfl rfl (by kernel_rfl) (fun _ _ _ h => h) (Or.inl ⟨by rfl, ?_⟩) hHeld ?_ ?_
            rotate_left
            · rintro w' ⟨s0, s1, s2⟩
              go_simp
              with_reducible rfl
            rotate_left
            · simp only [Act.put, List.setIfInBounds_toArray, List.set_cons_zero, List.set_cons_succ, i64_w, i32_w, tm, td, tw]
              rfl
            refine pure_ (i := 6) (N := some 84) (v := ?_) (a' := ?_) #[true, true, true, true, true, true, true, true, true, true, true, false, false, false, false] rfl rfl (by kernel_rfl) (fun _ _ _ h => h) (Or.inl ⟨by rfl, ?_⟩) ?_ ?_
            rotate_left
            · intro w'
              go_simp
              with_reducible rfl
            rotate_left
            · simp only [Act.put, List.setIfInBounds_toArray, List.set_cons_zero, List.set_cons_succ, i64_w, i32_w, tm, td, tw]
              rfl
            refine take_ (i := 11) (N := some 89) (v := ?_) (a' := ?_) #[true, true, true, true, true, true, true, true, true, true, true, true, false, false, false] rfl rfl (by kernel_rfl) (fun _ _ _ h => h) (Or.inl ⟨by rfl, ?_⟩) hHeld ?_ ?_
            rotate_left
            · rintro w' ⟨s0, s1, s2⟩
              go_simp
              with_reducible rfl
            rotate_left
            · simp only [Act.put, List.setIfInBounds_toArray, List.set_cons_zero, List.set_cons_succ, i64_w, i32_w, tm, td, tw]
              rfl
            refine one_ (i := 12) (N := some 90) #[true, true, true, true, true, true, true, true, true, true, true, true, true, false, false] rfl rfl (by kernel_rfl) (by decide) (fun K hK => ?_)
            refine goes_ Try.func36 (by kernel_rfl) rfl #[iv (r13 % 16), iv es] (by rfl) rfl rfl (by simp only [List.map_toArray, List.map_cons, List.map_nil]; rfl) ?_
            with_reducible refine (shaped_any _ _ _ (by omega) (by omega) oes pes).mono ?_
            rintro e w4 ⟨rfl, rfl⟩
            refine ⟨_, rfl, ?_⟩
            refine hK.out _ _ ⟨hHeld.1, hHeld.2.1, hHeld.2.2⟩ (fun hHeld => ?_)
            clear hK K
            refine norm_ (a' := ?_) ?_ ?_
            rotate_left
            · show Act.put _ (some 90) _ = _
              simp only [Act.put, List.setIfInBounds_toArray, List.set_cons_zero, List.set_cons_succ, i64_w, i32_w, tm, td, tw]
              rfl
            refine pure_ (i := 13) (N := some 91) (v := ?_) (a' := ?_) #[true, true, true, true, true, true, true, true, true, true, true, true, true, true, false] rfl rfl (by kernel_rfl) (fun _ _ _ h => h) (Or.inl ⟨by rfl, ?_⟩) ?_ ?_
            rotate_left
            · intro w'
              go_simp
              with_reducible rfl
            rotate_left
            · simp only [Act.put, List.setIfInBounds_toArray, List.set_cons_zero, List.set_cons_succ, i64_w, i32_w, tm, td, tw]
              rfl
            refine pure_ (i := 14) (N := some 9) (v := ?_) (a' := ?_) #[true, true, true, true, true, true, true, true, true, true, true, true, true, true, true] rfl rfl (by kernel_rfl) (fun _ _ _ h => h) (Or.inl ⟨by rfl, ?_⟩) ?_ ?_
            rotate_left
            · intro w'
              go_simp
              with_reducible rfl
            rotate_left
            · simp only [Act.put, List.setIfInBounds_toArray, List.set_cons_zero, List.set_cons_succ, i64_w, i32_w, tm, td, tw]
              rfl
            refine done_ (by kernel_rfl) ?_
            obtain ⟨_, _, mw, hmw⟩ := hHeld
            clear tm td tw
            go_wp2
            exact ⟨⟨3, by omega, rfl, by rw [show T.out _ 3 = (tout b0 n r7 1 8 r8 (r13 % 16) es) + (tout b1 n r7 2 16 r9 (r13 % 16) es) + (tout 0 n r7 4 32 r10 (r13 % 16) es) from rfl, HO.out], mw, by first | rfl | exact hmw⟩, by simp [intOf]⟩
          · have hO : (tout 0 n r7 4 32 r10 (r13 % 16) es) = lvl (r10 % 16) := by simp [tout, onB, vol, hB, hC, hD, hE]
            have HO := Lib.hid hO
            have eB := (i64_and1 (r7 / 4)).trans hB
            have eC := (i64_and1 n).trans hC
            have eD := (i64_and1 (r7 / 32)).trans hD
            have eE := and16 r10 or10 pr10
            rw [hE] at eE
            clear hO hB hC hD hE
            have hv0 : 0 ≤ (r10 % 16) := by omega
            have hv1 : (r10 % 16) < 16 := by omega
            obtain ⟨hl0, hl1⟩ := lvl_bd (r10 % 16)
            have gL : w.cell? ⟨h, (r10 % 16).toNat, none⟩ = some (iv (lvl (r10 % 16))) := (bkCell hL _).trans (lvL_at _ hv0 hv1)
            go_wp2
            exact ⟨⟨3, by omega, rfl, by rw [show T.out _ 3 = (tout b0 n r7 1 8 r8 (r13 % 16) es) + (tout b1 n r7 2 16 r9 (r13 % 16) es) + (tout 0 n r7 4 32 r10 (r13 % 16) es) from rfl, HO.out], nd, rfl⟩, by simp [intOf]⟩
        · have hO : (tout 0 n r7 4 32 r10 (r13 % 16) es) = 0 := by simp [tout, onB, vol, hB, hC, hD]
          have HO := Lib.hid hO
          have eB := (i64_and1 (r7 / 4)).trans hB
          have eC := (i64_and1 n).trans hC
          have eD := (i64_and1 (r7 / 32)).trans hD
          clear hO hB hC hD
          go_wp2
          exact ⟨⟨3, by omega, rfl, by rw [show T.out _ 3 = (tout b0 n r7 1 8 r8 (r13 % 16) es) + (tout b1 n r7 2 16 r9 (r13 % 16) es) + (tout 0 n r7 4 32 r10 (r13 % 16) es) from rfl, HO.out]; simp, nd, rfl⟩, by simp [intOf]⟩
      · rcases (by omega : n % 2 = 1 ∨ n % 2 = 0 ∧ (r7 / 32) % 2 = 1 ∨ n % 2 = 0 ∧ (r7 / 32) % 2 = 0) with hC | ⟨hC, hD⟩ | ⟨hC, hD⟩
        · have hO : (tout 0 n r7 4 32 r10 (r13 % 16) es) = 0 := by simp [tout, onB, vol, hB, hC]
          have HO := Lib.hid hO
          have eB := (i64_and1 (r7 / 4)).trans hB
          have eC := (i64_and1 n).trans hC
          clear hO hB hC
          go_wp2
          exact ⟨⟨3, by omega, rfl, by rw [show T.out _ 3 = (tout b0 n r7 1 8 r8 (r13 % 16) es) + (tout b1 n r7 2 16 r9 (r13 % 16) es) + (tout 0 n r7 4 32 r10 (r13 % 16) es) from rfl, HO.out]; simp, nd, rfl⟩, by simp [intOf]⟩
        · have hO : (tout 0 n r7 4 32 r10 (r13 % 16) es) = 0 := by simp [tout, onB, vol, hB, hC, hD]
          have HO := Lib.hid hO
          have eB := (i64_and1 (r7 / 4)).trans hB
          have eC := (i64_and1 n).trans hC
          have eD := (i64_and1 (r7 / 32)).trans hD
          clear hO hB hC hD
          go_wp2
          exact ⟨⟨3, by omega, rfl, by rw [show T.out _ 3 = (tout b0 n r7 1 8 r8 (r13 % 16) es) + (tout b1 n r7 2 16 r9 (r13 % 16) es) + (tout 0 n r7 4 32 r10 (r13 % 16) es) from rfl, HO.out]; simp, nd, rfl⟩, by simp [intOf]⟩
        · have hO : (tout 0 n r7 4 32 r10 (r13 % 16) es) = 0 := by simp [tout, onB, vol, hB, hC, hD]
          have HO := Lib.hid hO
          have eB := (i64_and1 (r7 / 4)).trans hB
          have eC := (i64_and1 n).trans hC
          have eD := (i64_and1 (r7 / 32)).trans hD
          clear hO hB hC hD
          go_wp2
          exact ⟨⟨3, by omega, rfl, by rw [show T.out _ 3 = (tout b0 n r7 1 8 r8 (r13 % 16) es) + (tout b1 n r7 2 16 r9 (r13 % 16) es) + (tout 0 n r7 4 32 r10 (r13 % 16) es) from rfl, HO.out]; simp, nd, rfl⟩, by simp [intOf]⟩
    · go_wp2
      go_ret
      exact ⟨rfl, bdN (Below.refl _ _) _⟩
set_option maxHeartbeats 16000000 in
set_option maxRecDepth 100000 in
theorem rsum_any (t : T) (ht : t.Ok) (w : World) :
    Calls Try.prog 44 #[.agg t.cs] w fun e w' => e = .returned (iv (t.out 3)) ∧ Below w.heap.size w w' := by
  obtain ⟨r0, r1, r2, r3, r4, r5, r6, r7, r8, r9, r10, r11, r12, r13, c0, c1, c2, b0, b1, b2, nc, n, ec, es⟩ := t
  obtain ⟨⟨or0, pr0⟩, ⟨or1, pr1⟩, ⟨or2, pr2⟩, ⟨or3, pr3⟩, ⟨or4, pr4⟩, ⟨or5, pr5⟩, ⟨or6, pr6⟩, ⟨or7, pr7⟩, ⟨or8, pr8⟩, ⟨or9, pr9⟩, ⟨or10, pr10⟩, ⟨or11, pr11⟩, ⟨or12, pr12⟩, ⟨or13, pr13⟩, ⟨oc0, pc0⟩, ⟨oc1, pc1⟩, ⟨oc2, pc2⟩, ⟨ob0, pb0⟩, ⟨ob1, pb1⟩, ⟨ob2, pb2⟩, ⟨onc, pnc⟩, ⟨on, pn⟩, ⟨oec, pec⟩, ⟨oes, pes⟩⟩ := ht
  simp only at or0 pr0 or1 pr1 or2 pr2 or3 pr3 or4 pr4 or5 pr5 or6 pr6 or7 pr7 or8 pr8 or9 pr9 or10 pr10 or11 pr11 or12 pr12 or13 pr13 oc0 pc0 oc1 pc1 oc2 pc2 ob0 pb0 ob1 pb1 ob2 pb2 onc pnc on pn oec pec oes pes
  clear or0 pr0 or1 pr1 or2 pr2 or3 pr3 or4 pr4 or5 pr5 or6 pr6 or11 pr11 or12 pr12 oc0 pc0 oc1 pc1 oc2 pc2 onc pnc oec pec
  obtain ⟨sh0, sh1⟩ := shv_bd (s := r13 % 16) (t := es) (by omega) (by omega) oes pes
  have T0 := tout_bd b0 n r7 1 8 r8 (r13 % 16) es
  obtain ⟨q0, s0⟩ := T0
  have T1 := tout_bd b1 n r7 2 16 r9 (r13 % 16) es
  obtain ⟨q1, s1⟩ := T1
  have T2 := tout_bd b2 n r7 4 32 r10 (r13 % 16) es
  obtain ⟨q2, s2⟩ := T2
  rw [show (T.cs ⟨r0, r1, r2, r3, r4, r5, r6, r7, r8, r9, r10, r11, r12, r13, c0, c1, c2, b0, b1, b2, nc, n, ec, es⟩ : Array Value) = #[iv r0, iv r1, iv r2, iv r3, iv r4, iv r5, iv r6, iv r7, iv r8, iv r9, iv r10, iv r11, iv r12, iv r13, iv c0, iv c1, iv c2, iv b0, iv b1, iv b2, iv nc, iv n, iv ec, iv es] from rfl]
  go_enter Try.func44, Try.ntmps44
  go_wp2
  go_loop [3, 4] (fun s v => ∃ k : Nat, k ≤ 3 ∧ v = iv k ∧ s = iv (T.out ⟨r0, r1, r2, r3, r4, r5, r6, r7, r8, r9, r10, r11, r12, r13, c0, c1, c2, b0, b1, b2, nc, n, ec, es⟩ k)) (fun _ v => 3 - (intOf v).toNat)
  case atStart => exact ⟨0, by omega, rfl, rfl⟩
  case round =>
    obtain ⟨k, hk, rfl, rfl⟩ := hrel
    rcases (by omega : k = 0 ∨ k = 1 ∨ k = 2 ∨ k = 3) with rfl | rfl | rfl | rfl
    · rw [show T.out ⟨r0, r1, r2, r3, r4, r5, r6, r7, r8, r9, r10, r11, r12, r13, c0, c1, c2, b0, b1, b2, nc, n, ec, es⟩ 0 = 0 from rfl]
      rcases (by omega : b0 = 1 ∨ b0 = 0 ∧ r7 % 2 = 1 ∨ b0 = 0 ∧ r7 % 2 = 0) with rfl | ⟨rfl, hB⟩ | ⟨rfl, hB⟩
      · rcases (by omega : n % 2 = 1 ∨ n % 2 = 0 ∧ (r7 / 8) % 2 = 1 ∨ n % 2 = 0 ∧ (r7 / 8) % 2 = 0) with hC | ⟨hC, hD⟩ | ⟨hC, hD⟩
        · rcases (by omega : r8 / 16 % 2 = 1 ∨ r8 / 16 % 2 = 0) with hE | hE
          · have hO : (tout 1 n r7 1 8 r8 (r13 % 16) es) = lvl (shv (r13 % 16) es / 2) := by simp [tout, onB, vol, hC, hE]
            have HO := Lib.hid hO
            have eC := (i64_and1 n).trans hC
            have eE := (i64_and1 (r8 / 16)).trans hE
            clear hO hC hE
            have hv0 : 0 ≤ (shv (r13 % 16) es / 2) := by omega
            have hv1 : (shv (r13 % 16) es / 2) < 16 := by omega
            obtain ⟨hl0, hl1⟩ := lvl_bd (shv (r13 % 16) es / 2)
            go_wp2_with (first | (go_at_call 40; (with_reducible refine (rvalue_any _ _ _ (by omega) (by omega) oes pes).mono ?_); rintro e w3 ⟨rfl, rfl⟩) | (go_at_call 34; (with_reducible refine (level_any _ _ hv0 (by omega)).mono ?_); rintro e w3 ⟨rfl, rfl⟩))
            exact ⟨⟨1, by omega, rfl, by rw [show T.out _ 1 = (tout 1 n r7 1 8 r8 (r13 % 16) es) from rfl, HO.out]⟩, by simp [intOf]⟩
          · have hO : (tout 1 n r7 1 8 r8 (r13 % 16) es) = lvl (r8 % 16) := by simp [tout, onB, vol, hC, hE]
            have HO := Lib.hid hO
            have eC := (i64_and1 n).trans hC
            have eE := (i64_and1 (r8 / 16)).trans hE
            clear hO hC hE
            have hv0 : 0 ≤ (r8 % 16) := by omega
            have hv1 : (r8 % 16) < 16 := by omega
            obtain ⟨hl0, hl1⟩ := lvl_bd (r8 % 16)
            go_wp2_with (first | (go_at_call 40; (with_reducible refine (rvalue_any _ _ _ (by omega) (by omega) oes pes).mono ?_); rintro e w3 ⟨rfl, rfl⟩) | (go_at_call 34; (with_reducible refine (level_any _ _ hv0 (by omega)).mono ?_); rintro e w3 ⟨rfl, rfl⟩))
            exact ⟨⟨1, by omega, rfl, by rw [show T.out _ 1 = (tout 1 n r7 1 8 r8 (r13 % 16) es) from rfl, HO.out]⟩, by simp [intOf]⟩
        · rcases (by omega : r8 / 16 % 2 = 1 ∨ r8 / 16 % 2 = 0) with hE | hE
          · have hO : (tout 1 n r7 1 8 r8 (r13 % 16) es) = lvl (shv (r13 % 16) es / 2) := by simp [tout, onB, vol, hC, hD, hE]
            have HO := Lib.hid hO
            have eC := (i64_and1 n).trans hC
            have eD := (i64_and1 (r7 / 8)).trans hD
            have eE := (i64_and1 (r8 / 16)).trans hE
            clear hO hC hD hE
            have hv0 : 0 ≤ (shv (r13 % 16) es / 2) := by omega
            have hv1 : (shv (r13 % 16) es / 2) < 16 := by omega
            obtain ⟨hl0, hl1⟩ := lvl_bd (shv (r13 % 16) es / 2)
            go_wp2_with (first | (go_at_call 40; (with_reducible refine (rvalue_any _ _ _ (by omega) (by omega) oes pes).mono ?_); rintro e w3 ⟨rfl, rfl⟩) | (go_at_call 34; (with_reducible refine (level_any _ _ hv0 (by omega)).mono ?_); rintro e w3 ⟨rfl, rfl⟩))
            exact ⟨⟨1, by omega, rfl, by rw [show T.out _ 1 = (tout 1 n r7 1 8 r8 (r13 % 16) es) from rfl, HO.out]⟩, by simp [intOf]⟩
          · have hO : (tout 1 n r7 1 8 r8 (r13 % 16) es) = lvl (r8 % 16) := by simp [tout, onB, vol, hC, hD, hE]
            have HO := Lib.hid hO
            have eC := (i64_and1 n).trans hC
            have eD := (i64_and1 (r7 / 8)).trans hD
            have eE := (i64_and1 (r8 / 16)).trans hE
            clear hO hC hD hE
            have hv0 : 0 ≤ (r8 % 16) := by omega
            have hv1 : (r8 % 16) < 16 := by omega
            obtain ⟨hl0, hl1⟩ := lvl_bd (r8 % 16)
            go_wp2_with (first | (go_at_call 40; (with_reducible refine (rvalue_any _ _ _ (by omega) (by omega) oes pes).mono ?_); rintro e w3 ⟨rfl, rfl⟩) | (go_at_call 34; (with_reducible refine (level_any _ _ hv0 (by omega)).mono ?_); rintro e w3 ⟨rfl, rfl⟩))
            exact ⟨⟨1, by omega, rfl, by rw [show T.out _ 1 = (tout 1 n r7 1 8 r8 (r13 % 16) es) from rfl, HO.out]⟩, by simp [intOf]⟩
        · have hO : (tout 1 n r7 1 8 r8 (r13 % 16) es) = 0 := by simp [tout, onB, vol, hC, hD]
          have HO := Lib.hid hO
          have eC := (i64_and1 n).trans hC
          have eD := (i64_and1 (r7 / 8)).trans hD
          clear hO hC hD
          go_wp2_with (first | (go_at_call 40; (with_reducible refine (rvalue_any _ _ _ (by omega) (by omega) oes pes).mono ?_); rintro e w3 ⟨rfl, rfl⟩) | (go_at_call 34; (with_reducible refine (level_any _ _ hv0 (by omega)).mono ?_); rintro e w3 ⟨rfl, rfl⟩))
          exact ⟨⟨1, by omega, rfl, by rw [show T.out _ 1 = (tout 1 n r7 1 8 r8 (r13 % 16) es) from rfl, HO.out]⟩, by simp [intOf]⟩
      · rcases (by omega : n % 2 = 1 ∨ n % 2 = 0 ∧ (r7 / 8) % 2 = 1 ∨ n % 2 = 0 ∧ (r7 / 8) % 2 = 0) with hC | ⟨hC, hD⟩ | ⟨hC, hD⟩
        · rcases (by omega : r8 / 16 % 2 = 1 ∨ r8 / 16 % 2 = 0) with hE | hE
          · have hO : (tout 0 n r7 1 8 r8 (r13 % 16) es) = lvl (shv (r13 % 16) es / 2) := by simp [tout, onB, vol, hB, hC, hE]
            have HO := Lib.hid hO
            have eB := (i64_and1 r7).trans hB
            have eC := (i64_and1 n).trans hC
            have eE := (i64_and1 (r8 / 16)).trans hE
            clear hO hB hC hE
            have hv0 : 0 ≤ (shv (r13 % 16) es / 2) := by omega
            have hv1 : (shv (r13 % 16) es / 2) < 16 := by omega
            obtain ⟨hl0, hl1⟩ := lvl_bd (shv (r13 % 16) es / 2)
            go_wp2_with (first | (go_at_call 40; (with_reducible refine (rvalue_any _ _ _ (by omega) (by omega) oes pes).mono ?_); rintro e w3 ⟨rfl, rfl⟩) | (go_at_call 34; (with_reducible refine (level_any _ _ hv0 (by omega)).mono ?_); rintro e w3 ⟨rfl, rfl⟩))
            exact ⟨⟨1, by omega, rfl, by rw [show T.out _ 1 = (tout 0 n r7 1 8 r8 (r13 % 16) es) from rfl, HO.out]⟩, by simp [intOf]⟩
          · have hO : (tout 0 n r7 1 8 r8 (r13 % 16) es) = lvl (r8 % 16) := by simp [tout, onB, vol, hB, hC, hE]
            have HO := Lib.hid hO
            have eB := (i64_and1 r7).trans hB
            have eC := (i64_and1 n).trans hC
            have eE := (i64_and1 (r8 / 16)).trans hE
            clear hO hB hC hE
            have hv0 : 0 ≤ (r8 % 16) := by omega
            have hv1 : (r8 % 16) < 16 := by omega
            obtain ⟨hl0, hl1⟩ := lvl_bd (r8 % 16)
            go_wp2_with (first | (go_at_call 40; (with_reducible refine (rvalue_any _ _ _ (by omega) (by omega) oes pes).mono ?_); rintro e w3 ⟨rfl, rfl⟩) | (go_at_call 34; (with_reducible refine (level_any _ _ hv0 (by omega)).mono ?_); rintro e w3 ⟨rfl, rfl⟩))
            exact ⟨⟨1, by omega, rfl, by rw [show T.out _ 1 = (tout 0 n r7 1 8 r8 (r13 % 16) es) from rfl, HO.out]⟩, by simp [intOf]⟩
        · rcases (by omega : r8 / 16 % 2 = 1 ∨ r8 / 16 % 2 = 0) with hE | hE
          · have hO : (tout 0 n r7 1 8 r8 (r13 % 16) es) = lvl (shv (r13 % 16) es / 2) := by simp [tout, onB, vol, hB, hC, hD, hE]
            have HO := Lib.hid hO
            have eB := (i64_and1 r7).trans hB
            have eC := (i64_and1 n).trans hC
            have eD := (i64_and1 (r7 / 8)).trans hD
            have eE := (i64_and1 (r8 / 16)).trans hE
            clear hO hB hC hD hE
            have hv0 : 0 ≤ (shv (r13 % 16) es / 2) := by omega
            have hv1 : (shv (r13 % 16) es / 2) < 16 := by omega
            obtain ⟨hl0, hl1⟩ := lvl_bd (shv (r13 % 16) es / 2)
            go_wp2_with (first | (go_at_call 40; (with_reducible refine (rvalue_any _ _ _ (by omega) (by omega) oes pes).mono ?_); rintro e w3 ⟨rfl, rfl⟩) | (go_at_call 34; (with_reducible refine (level_any _ _ hv0 (by omega)).mono ?_); rintro e w3 ⟨rfl, rfl⟩))
            exact ⟨⟨1, by omega, rfl, by rw [show T.out _ 1 = (tout 0 n r7 1 8 r8 (r13 % 16) es) from rfl, HO.out]⟩, by simp [intOf]⟩
          · have hO : (tout 0 n r7 1 8 r8 (r13 % 16) es) = lvl (r8 % 16) := by simp [tout, onB, vol, hB, hC, hD, hE]
            have HO := Lib.hid hO
            have eB := (i64_and1 r7).trans hB
            have eC := (i64_and1 n).trans hC
            have eD := (i64_and1 (r7 / 8)).trans hD
            have eE := (i64_and1 (r8 / 16)).trans hE
            clear hO hB hC hD hE
            have hv0 : 0 ≤ (r8 % 16) := by omega
            have hv1 : (r8 % 16) < 16 := by omega
            obtain ⟨hl0, hl1⟩ := lvl_bd (r8 % 16)
            go_wp2_with (first | (go_at_call 40; (with_reducible refine (rvalue_any _ _ _ (by omega) (by omega) oes pes).mono ?_); rintro e w3 ⟨rfl, rfl⟩) | (go_at_call 34; (with_reducible refine (level_any _ _ hv0 (by omega)).mono ?_); rintro e w3 ⟨rfl, rfl⟩))
            exact ⟨⟨1, by omega, rfl, by rw [show T.out _ 1 = (tout 0 n r7 1 8 r8 (r13 % 16) es) from rfl, HO.out]⟩, by simp [intOf]⟩
        · have hO : (tout 0 n r7 1 8 r8 (r13 % 16) es) = 0 := by simp [tout, onB, vol, hB, hC, hD]
          have HO := Lib.hid hO
          have eB := (i64_and1 r7).trans hB
          have eC := (i64_and1 n).trans hC
          have eD := (i64_and1 (r7 / 8)).trans hD
          clear hO hB hC hD
          go_wp2_with (first | (go_at_call 40; (with_reducible refine (rvalue_any _ _ _ (by omega) (by omega) oes pes).mono ?_); rintro e w3 ⟨rfl, rfl⟩) | (go_at_call 34; (with_reducible refine (level_any _ _ hv0 (by omega)).mono ?_); rintro e w3 ⟨rfl, rfl⟩))
          exact ⟨⟨1, by omega, rfl, by rw [show T.out _ 1 = (tout 0 n r7 1 8 r8 (r13 % 16) es) from rfl, HO.out]⟩, by simp [intOf]⟩
      · rcases (by omega : n % 2 = 1 ∨ n % 2 = 0 ∧ (r7 / 8) % 2 = 1 ∨ n % 2 = 0 ∧ (r7 / 8) % 2 = 0) with hC | ⟨hC, hD⟩ | ⟨hC, hD⟩
        · have hO : (tout 0 n r7 1 8 r8 (r13 % 16) es) = 0 := by simp [tout, onB, vol, hB, hC]
          have HO := Lib.hid hO
          have eB := (i64_and1 r7).trans hB
          have eC := (i64_and1 n).trans hC
          clear hO hB hC
          go_wp2_with (first | (go_at_call 40; (with_reducible refine (rvalue_any _ _ _ (by omega) (by omega) oes pes).mono ?_); rintro e w3 ⟨rfl, rfl⟩) | (go_at_call 34; (with_reducible refine (level_any _ _ hv0 (by omega)).mono ?_); rintro e w3 ⟨rfl, rfl⟩))
          exact ⟨⟨1, by omega, rfl, by rw [show T.out _ 1 = (tout 0 n r7 1 8 r8 (r13 % 16) es) from rfl, HO.out]⟩, by simp [intOf]⟩
        · have hO : (tout 0 n r7 1 8 r8 (r13 % 16) es) = 0 := by simp [tout, onB, vol, hB, hC, hD]
          have HO := Lib.hid hO
          have eB := (i64_and1 r7).trans hB
          have eC := (i64_and1 n).trans hC
          have eD := (i64_and1 (r7 / 8)).trans hD
          clear hO hB hC hD
          go_wp2_with (first | (go_at_call 40; (with_reducible refine (rvalue_any _ _ _ (by omega) (by omega) oes pes).mono ?_); rintro e w3 ⟨rfl, rfl⟩) | (go_at_call 34; (with_reducible refine (level_any _ _ hv0 (by omega)).mono ?_); rintro e w3 ⟨rfl, rfl⟩))
          exact ⟨⟨1, by omega, rfl, by rw [show T.out _ 1 = (tout 0 n r7 1 8 r8 (r13 % 16) es) from rfl, HO.out]⟩, by simp [intOf]⟩
        · have hO : (tout 0 n r7 1 8 r8 (r13 % 16) es) = 0 := by simp [tout, onB, vol, hB, hC, hD]
          have HO := Lib.hid hO
          have eB := (i64_and1 r7).trans hB
          have eC := (i64_and1 n).trans hC
          have eD := (i64_and1 (r7 / 8)).trans hD
          clear hO hB hC hD
          go_wp2_with (first | (go_at_call 40; (with_reducible refine (rvalue_any _ _ _ (by omega) (by omega) oes pes).mono ?_); rintro e w3 ⟨rfl, rfl⟩) | (go_at_call 34; (with_reducible refine (level_any _ _ hv0 (by omega)).mono ?_); rintro e w3 ⟨rfl, rfl⟩))
          exact ⟨⟨1, by omega, rfl, by rw [show T.out _ 1 = (tout 0 n r7 1 8 r8 (r13 % 16) es) from rfl, HO.out]⟩, by simp [intOf]⟩
    · rw [show T.out ⟨r0, r1, r2, r3, r4, r5, r6, r7, r8, r9, r10, r11, r12, r13, c0, c1, c2, b0, b1, b2, nc, n, ec, es⟩ 1 = (tout b0 n r7 1 8 r8 (r13 % 16) es) from rfl]
      rcases (by omega : b1 = 1 ∨ b1 = 0 ∧ (r7 / 2) % 2 = 1 ∨ b1 = 0 ∧ (r7 / 2) % 2 = 0) with rfl | ⟨rfl, hB⟩ | ⟨rfl, hB⟩
      · rcases (by omega : n % 2 = 1 ∨ n % 2 = 0 ∧ (r7 / 16) % 2 = 1 ∨ n % 2 = 0 ∧ (r7 / 16) % 2 = 0) with hC | ⟨hC, hD⟩ | ⟨hC, hD⟩
        · rcases (by omega : r9 / 16 % 2 = 1 ∨ r9 / 16 % 2 = 0) with hE | hE
          · have hO : (tout 1 n r7 2 16 r9 (r13 % 16) es) = lvl (shv (r13 % 16) es / 2) := by simp [tout, onB, vol, hC, hE]
            have HO := Lib.hid hO
            have eC := (i64_and1 n).trans hC
            have eE := (i64_and1 (r9 / 16)).trans hE
            clear hO hC hE
            have hv0 : 0 ≤ (shv (r13 % 16) es / 2) := by omega
            have hv1 : (shv (r13 % 16) es / 2) < 16 := by omega
            obtain ⟨hl0, hl1⟩ := lvl_bd (shv (r13 % 16) es / 2)
            go_wp2_with (first | (go_at_call 40; (with_reducible refine (rvalue_any _ _ _ (by omega) (by omega) oes pes).mono ?_); rintro e w3 ⟨rfl, rfl⟩) | (go_at_call 34; (with_reducible refine (level_any _ _ hv0 (by omega)).mono ?_); rintro e w3 ⟨rfl, rfl⟩))
            exact ⟨⟨2, by omega, rfl, by rw [show T.out _ 2 = (tout b0 n r7 1 8 r8 (r13 % 16) es) + (tout 1 n r7 2 16 r9 (r13 % 16) es) from rfl, HO.out]⟩, by simp [intOf]⟩
          · have hO : (tout 1 n r7 2 16 r9 (r13 % 16) es) = lvl (r9 % 16) := by simp [tout, onB, vol, hC, hE]
            have HO := Lib.hid hO
            have eC := (i64_and1 n).trans hC
            have eE := (i64_and1 (r9 / 16)).trans hE
            clear hO hC hE
            have hv0 : 0 ≤ (r9 % 16) := by omega
            have hv1 : (r9 % 16) < 16 := by omega
            obtain ⟨hl0, hl1⟩ := lvl_bd (r9 % 16)
            go_wp2_with (first | (go_at_call 40; (with_reducible refine (rvalue_any _ _ _ (by omega) (by omega) oes pes).mono ?_); rintro e w3 ⟨rfl, rfl⟩) | (go_at_call 34; (with_reducible refine (level_any _ _ hv0 (by omega)).mono ?_); rintro e w3 ⟨rfl, rfl⟩))
            exact ⟨⟨2, by omega, rfl, by rw [show T.out _ 2 = (tout b0 n r7 1 8 r8 (r13 % 16) es) + (tout 1 n r7 2 16 r9 (r13 % 16) es) from rfl, HO.out]⟩, by simp [intOf]⟩
        · rcases (by omega : r9 / 16 % 2 = 1 ∨ r9 / 16 % 2 = 0) with hE | hE
          · have hO : (tout 1 n r7 2 16 r9 (r13 % 16) es) = lvl (shv (r13 % 16) es / 2) := by simp [tout, onB, vol, hC, hD, hE]
            have HO := Lib.hid hO
            have eC := (i64_and1 n).trans hC
            have eD := (i64_and1 (r7 / 16)).trans hD
            have eE := (i64_and1 (r9 / 16)).trans hE
            clear hO hC hD hE
            have hv0 : 0 ≤ (shv (r13 % 16) es / 2) := by omega
            have hv1 : (shv (r13 % 16) es / 2) < 16 := by omega
            obtain ⟨hl0, hl1⟩ := lvl_bd (shv (r13 % 16) es / 2)
            go_wp2_with (first | (go_at_call 40; (with_reducible refine (rvalue_any _ _ _ (by omega) (by omega) oes pes).mono ?_); rintro e w3 ⟨rfl, rfl⟩) | (go_at_call 34; (with_reducible refine (level_any _ _ hv0 (by omega)).mono ?_); rintro e w3 ⟨rfl, rfl⟩))
            exact ⟨⟨2, by omega, rfl, by rw [show T.out _ 2 = (tout b0 n r7 1 8 r8 (r13 % 16) es) + (tout 1 n r7 2 16 r9 (r13 % 16) es) from rfl, HO.out]⟩, by simp [intOf]⟩
          · have hO : (tout 1 n r7 2 16 r9 (r13 % 16) es) = lvl (r9 % 16) := by simp [tout, onB, vol, hC, hD, hE]
            have HO := Lib.hid hO
            have eC := (i64_and1 n).trans hC
            have eD := (i64_and1 (r7 / 16)).trans hD
            have eE := (i64_and1 (r9 / 16)).trans hE
            clear hO hC hD hE
            have hv0 : 0 ≤ (r9 % 16) := by omega
            have hv1 : (r9 % 16) < 16 := by omega
            obtain ⟨hl0, hl1⟩ := lvl_bd (r9 % 16)
            go_wp2_with (first | (go_at_call 40; (with_reducible refine (rvalue_any _ _ _ (by omega) (by omega) oes pes).mono ?_); rintro e w3 ⟨rfl, rfl⟩) | (go_at_call 34; (with_reducible refine (level_any _ _ hv0 (by omega)).mono ?_); rintro e w3 ⟨rfl, rfl⟩))
            exact ⟨⟨2, by omega, rfl, by rw [show T.out _ 2 = (tout b0 n r7 1 8 r8 (r13 % 16) es) + (tout 1 n r7 2 16 r9 (r13 % 16) es) from rfl, HO.out]⟩, by simp [intOf]⟩
        · have hO : (tout 1 n r7 2 16 r9 (r13 % 16) es) = 0 := by simp [tout, onB, vol, hC, hD]
          have HO := Lib.hid hO
          have eC := (i64_and1 n).trans hC
          have eD := (i64_and1 (r7 / 16)).trans hD
          clear hO hC hD
          go_wp2_with (first | (go_at_call 40; (with_reducible refine (rvalue_any _ _ _ (by omega) (by omega) oes pes).mono ?_); rintro e w3 ⟨rfl, rfl⟩) | (go_at_call 34; (with_reducible refine (level_any _ _ hv0 (by omega)).mono ?_); rintro e w3 ⟨rfl, rfl⟩))
          exact ⟨⟨2, by omega, rfl, by rw [show T.out _ 2 = (tout b0 n r7 1 8 r8 (r13 % 16) es) + (tout 1 n r7 2 16 r9 (r13 % 16) es) from rfl, HO.out]; simp⟩, by simp [intOf]⟩
      · rcases (by omega : n % 2 = 1 ∨ n % 2 = 0 ∧ (r7 / 16) % 2 = 1 ∨ n % 2 = 0 ∧ (r7 / 16) % 2 = 0) with hC | ⟨hC, hD⟩ | ⟨hC, hD⟩
        · rcases (by omega : r9 / 16 % 2 = 1 ∨ r9 / 16 % 2 = 0) with hE | hE
          · have hO : (tout 0 n r7 2 16 r9 (r13 % 16) es) = lvl (shv (r13 % 16) es / 2) := by simp [tout, onB, vol, hB, hC, hE]
            have HO := Lib.hid hO
            have eB := (i64_and1 (r7 / 2)).trans hB
            have eC := (i64_and1 n).trans hC
            have eE := (i64_and1 (r9 / 16)).trans hE
            clear hO hB hC hE
            have hv0 : 0 ≤ (shv (r13 % 16) es / 2) := by omega
            have hv1 : (shv (r13 % 16) es / 2) < 16 := by omega
            obtain ⟨hl0, hl1⟩ := lvl_bd (shv (r13 % 16) es / 2)
            go_wp2_with (first | (go_at_call 40; (with_reducible refine (rvalue_any _ _ _ (by omega) (by omega) oes pes).mono ?_); rintro e w3 ⟨rfl, rfl⟩) | (go_at_call 34; (with_reducible refine (level_any _ _ hv0 (by omega)).mono ?_); rintro e w3 ⟨rfl, rfl⟩))
            exact ⟨⟨2, by omega, rfl, by rw [show T.out _ 2 = (tout b0 n r7 1 8 r8 (r13 % 16) es) + (tout 0 n r7 2 16 r9 (r13 % 16) es) from rfl, HO.out]⟩, by simp [intOf]⟩
          · have hO : (tout 0 n r7 2 16 r9 (r13 % 16) es) = lvl (r9 % 16) := by simp [tout, onB, vol, hB, hC, hE]
            have HO := Lib.hid hO
            have eB := (i64_and1 (r7 / 2)).trans hB
            have eC := (i64_and1 n).trans hC
            have eE := (i64_and1 (r9 / 16)).trans hE
            clear hO hB hC hE
            have hv0 : 0 ≤ (r9 % 16) := by omega
            have hv1 : (r9 % 16) < 16 := by omega
            obtain ⟨hl0, hl1⟩ := lvl_bd (r9 % 16)
            go_wp2_with (first | (go_at_call 40; (with_reducible refine (rvalue_any _ _ _ (by omega) (by omega) oes pes).mono ?_); rintro e w3 ⟨rfl, rfl⟩) | (go_at_call 34; (with_reducible refine (level_any _ _ hv0 (by omega)).mono ?_); rintro e w3 ⟨rfl, rfl⟩))
            exact ⟨⟨2, by omega, rfl, by rw [show T.out _ 2 = (tout b0 n r7 1 8 r8 (r13 % 16) es) + (tout 0 n r7 2 16 r9 (r13 % 16) es) from rfl, HO.out]⟩, by simp [intOf]⟩
        · rcases (by omega : r9 / 16 % 2 = 1 ∨ r9 / 16 % 2 = 0) with hE | hE
          · have hO : (tout 0 n r7 2 16 r9 (r13 % 16) es) = lvl (shv (r13 % 16) es / 2) := by simp [tout, onB, vol, hB, hC, hD, hE]
            have HO := Lib.hid hO
            have eB := (i64_and1 (r7 / 2)).trans hB
            have eC := (i64_and1 n).trans hC
            have eD := (i64_and1 (r7 / 16)).trans hD
            have eE := (i64_and1 (r9 / 16)).trans hE
            clear hO hB hC hD hE
            have hv0 : 0 ≤ (shv (r13 % 16) es / 2) := by omega
            have hv1 : (shv (r13 % 16) es / 2) < 16 := by omega
            obtain ⟨hl0, hl1⟩ := lvl_bd (shv (r13 % 16) es / 2)
            go_wp2_with (first | (go_at_call 40; (with_reducible refine (rvalue_any _ _ _ (by omega) (by omega) oes pes).mono ?_); rintro e w3 ⟨rfl, rfl⟩) | (go_at_call 34; (with_reducible refine (level_any _ _ hv0 (by omega)).mono ?_); rintro e w3 ⟨rfl, rfl⟩))
            exact ⟨⟨2, by omega, rfl, by rw [show T.out _ 2 = (tout b0 n r7 1 8 r8 (r13 % 16) es) + (tout 0 n r7 2 16 r9 (r13 % 16) es) from rfl, HO.out]⟩, by simp [intOf]⟩
          · have hO : (tout 0 n r7 2 16 r9 (r13 % 16) es) = lvl (r9 % 16) := by simp [tout, onB, vol, hB, hC, hD, hE]
            have HO := Lib.hid hO
            have eB := (i64_and1 (r7 / 2)).trans hB
            have eC := (i64_and1 n).trans hC
            have eD := (i64_and1 (r7 / 16)).trans hD
            have eE := (i64_and1 (r9 / 16)).trans hE
            clear hO hB hC hD hE
            have hv0 : 0 ≤ (r9 % 16) := by omega
            have hv1 : (r9 % 16) < 16 := by omega
            obtain ⟨hl0, hl1⟩ := lvl_bd (r9 % 16)
            go_wp2_with (first | (go_at_call 40; (with_reducible refine (rvalue_any _ _ _ (by omega) (by omega) oes pes).mono ?_); rintro e w3 ⟨rfl, rfl⟩) | (go_at_call 34; (with_reducible refine (level_any _ _ hv0 (by omega)).mono ?_); rintro e w3 ⟨rfl, rfl⟩))
            exact ⟨⟨2, by omega, rfl, by rw [show T.out _ 2 = (tout b0 n r7 1 8 r8 (r13 % 16) es) + (tout 0 n r7 2 16 r9 (r13 % 16) es) from rfl, HO.out]⟩, by simp [intOf]⟩
        · have hO : (tout 0 n r7 2 16 r9 (r13 % 16) es) = 0 := by simp [tout, onB, vol, hB, hC, hD]
          have HO := Lib.hid hO
          have eB := (i64_and1 (r7 / 2)).trans hB
          have eC := (i64_and1 n).trans hC
          have eD := (i64_and1 (r7 / 16)).trans hD
          clear hO hB hC hD
          go_wp2_with (first | (go_at_call 40; (with_reducible refine (rvalue_any _ _ _ (by omega) (by omega) oes pes).mono ?_); rintro e w3 ⟨rfl, rfl⟩) | (go_at_call 34; (with_reducible refine (level_any _ _ hv0 (by omega)).mono ?_); rintro e w3 ⟨rfl, rfl⟩))
          exact ⟨⟨2, by omega, rfl, by rw [show T.out _ 2 = (tout b0 n r7 1 8 r8 (r13 % 16) es) + (tout 0 n r7 2 16 r9 (r13 % 16) es) from rfl, HO.out]; simp⟩, by simp [intOf]⟩
      · rcases (by omega : n % 2 = 1 ∨ n % 2 = 0 ∧ (r7 / 16) % 2 = 1 ∨ n % 2 = 0 ∧ (r7 / 16) % 2 = 0) with hC | ⟨hC, hD⟩ | ⟨hC, hD⟩
        · have hO : (tout 0 n r7 2 16 r9 (r13 % 16) es) = 0 := by simp [tout, onB, vol, hB, hC]
          have HO := Lib.hid hO
          have eB := (i64_and1 (r7 / 2)).trans hB
          have eC := (i64_and1 n).trans hC
          clear hO hB hC
          go_wp2_with (first | (go_at_call 40; (with_reducible refine (rvalue_any _ _ _ (by omega) (by omega) oes pes).mono ?_); rintro e w3 ⟨rfl, rfl⟩) | (go_at_call 34; (with_reducible refine (level_any _ _ hv0 (by omega)).mono ?_); rintro e w3 ⟨rfl, rfl⟩))
          exact ⟨⟨2, by omega, rfl, by rw [show T.out _ 2 = (tout b0 n r7 1 8 r8 (r13 % 16) es) + (tout 0 n r7 2 16 r9 (r13 % 16) es) from rfl, HO.out]; simp⟩, by simp [intOf]⟩
        · have hO : (tout 0 n r7 2 16 r9 (r13 % 16) es) = 0 := by simp [tout, onB, vol, hB, hC, hD]
          have HO := Lib.hid hO
          have eB := (i64_and1 (r7 / 2)).trans hB
          have eC := (i64_and1 n).trans hC
          have eD := (i64_and1 (r7 / 16)).trans hD
          clear hO hB hC hD
          go_wp2_with (first | (go_at_call 40; (with_reducible refine (rvalue_any _ _ _ (by omega) (by omega) oes pes).mono ?_); rintro e w3 ⟨rfl, rfl⟩) | (go_at_call 34; (with_reducible refine (level_any _ _ hv0 (by omega)).mono ?_); rintro e w3 ⟨rfl, rfl⟩))
          exact ⟨⟨2, by omega, rfl, by rw [show T.out _ 2 = (tout b0 n r7 1 8 r8 (r13 % 16) es) + (tout 0 n r7 2 16 r9 (r13 % 16) es) from rfl, HO.out]; simp⟩, by simp [intOf]⟩
        · have hO : (tout 0 n r7 2 16 r9 (r13 % 16) es) = 0 := by simp [tout, onB, vol, hB, hC, hD]
          have HO := Lib.hid hO
          have eB := (i64_and1 (r7 / 2)).trans hB
          have eC := (i64_and1 n).trans hC
          have eD := (i64_and1 (r7 / 16)).trans hD
          clear hO hB hC hD
          go_wp2_with (first | (go_at_call 40; (with_reducible refine (rvalue_any _ _ _ (by omega) (by omega) oes pes).mono ?_); rintro e w3 ⟨rfl, rfl⟩) | (go_at_call 34; (with_reducible refine (level_any _ _ hv0 (by omega)).mono ?_); rintro e w3 ⟨rfl, rfl⟩))
          exact ⟨⟨2, by omega, rfl, by rw [show T.out _ 2 = (tout b0 n r7 1 8 r8 (r13 % 16) es) + (tout 0 n r7 2 16 r9 (r13 % 16) es) from rfl, HO.out]; simp⟩, by simp [intOf]⟩
    · rw [show T.out ⟨r0, r1, r2, r3, r4, r5, r6, r7, r8, r9, r10, r11, r12, r13, c0, c1, c2, b0, b1, b2, nc, n, ec, es⟩ 2 = (tout b0 n r7 1 8 r8 (r13 % 16) es) + (tout b1 n r7 2 16 r9 (r13 % 16) es) from rfl]
      rcases (by omega : b2 = 1 ∨ b2 = 0 ∧ (r7 / 4) % 2 = 1 ∨ b2 = 0 ∧ (r7 / 4) % 2 = 0) with rfl | ⟨rfl, hB⟩ | ⟨rfl, hB⟩
      · rcases (by omega : n % 2 = 1 ∨ n % 2 = 0 ∧ (r7 / 32) % 2 = 1 ∨ n % 2 = 0 ∧ (r7 / 32) % 2 = 0) with hC | ⟨hC, hD⟩ | ⟨hC, hD⟩
        · rcases (by omega : r10 / 16 % 2 = 1 ∨ r10 / 16 % 2 = 0) with hE | hE
          · have hO : (tout 1 n r7 4 32 r10 (r13 % 16) es) = lvl (shv (r13 % 16) es / 2) := by simp [tout, onB, vol, hC, hE]
            have HO := Lib.hid hO
            have eC := (i64_and1 n).trans hC
            have eE := (i64_and1 (r10 / 16)).trans hE
            clear hO hC hE
            have hv0 : 0 ≤ (shv (r13 % 16) es / 2) := by omega
            have hv1 : (shv (r13 % 16) es / 2) < 16 := by omega
            obtain ⟨hl0, hl1⟩ := lvl_bd (shv (r13 % 16) es / 2)
            go_wp2_with (first | (go_at_call 40; (with_reducible refine (rvalue_any _ _ _ (by omega) (by omega) oes pes).mono ?_); rintro e w3 ⟨rfl, rfl⟩) | (go_at_call 34; (with_reducible refine (level_any _ _ hv0 (by omega)).mono ?_); rintro e w3 ⟨rfl, rfl⟩))
            exact ⟨⟨3, by omega, rfl, by rw [show T.out _ 3 = (tout b0 n r7 1 8 r8 (r13 % 16) es) + (tout b1 n r7 2 16 r9 (r13 % 16) es) + (tout 1 n r7 4 32 r10 (r13 % 16) es) from rfl, HO.out]⟩, by simp [intOf]⟩
          · have hO : (tout 1 n r7 4 32 r10 (r13 % 16) es) = lvl (r10 % 16) := by simp [tout, onB, vol, hC, hE]
            have HO := Lib.hid hO
            have eC := (i64_and1 n).trans hC
            have eE := (i64_and1 (r10 / 16)).trans hE
            clear hO hC hE
            have hv0 : 0 ≤ (r10 % 16) := by omega
            have hv1 : (r10 % 16) < 16 := by omega
            obtain ⟨hl0, hl1⟩ := lvl_bd (r10 % 16)
            go_wp2_with (first | (go_at_call 40; (with_reducible refine (rvalue_any _ _ _ (by omega) (by omega) oes pes).mono ?_); rintro e w3 ⟨rfl, rfl⟩) | (go_at_call 34; (with_reducible refine (level_any _ _ hv0 (by omega)).mono ?_); rintro e w3 ⟨rfl, rfl⟩))
            exact ⟨⟨3, by omega, rfl, by rw [show T.out _ 3 = (tout b0 n r7 1 8 r8 (r13 % 16) es) + (tout b1 n r7 2 16 r9 (r13 % 16) es) + (tout 1 n r7 4 32 r10 (r13 % 16) es) from rfl, HO.out]⟩, by simp [intOf]⟩
        · rcases (by omega : r10 / 16 % 2 = 1 ∨ r10 / 16 % 2 = 0) with hE | hE
          · have hO : (tout 1 n r7 4 32 r10 (r13 % 16) es) = lvl (shv (r13 % 16) es / 2) := by simp [tout, onB, vol, hC, hD, hE]
            have HO := Lib.hid hO
            have eC := (i64_and1 n).trans hC
            have eD := (i64_and1 (r7 / 32)).trans hD
            have eE := (i64_and1 (r10 / 16)).trans hE
            clear hO hC hD hE
            have hv0 : 0 ≤ (shv (r13 % 16) es / 2) := by omega
            have hv1 : (shv (r13 % 16) es / 2) < 16 := by omega
            obtain ⟨hl0, hl1⟩ := lvl_bd (shv (r13 % 16) es / 2)
            go_wp2_with (first | (go_at_call 40; (with_reducible refine (rvalue_any _ _ _ (by omega) (by omega) oes pes).mono ?_); rintro e w3 ⟨rfl, rfl⟩) | (go_at_call 34; (with_reducible refine (level_any _ _ hv0 (by omega)).mono ?_); rintro e w3 ⟨rfl, rfl⟩))
            exact ⟨⟨3, by omega, rfl, by rw [show T.out _ 3 = (tout b0 n r7 1 8 r8 (r13 % 16) es) + (tout b1 n r7 2 16 r9 (r13 % 16) es) + (tout 1 n r7 4 32 r10 (r13 % 16) es) from rfl, HO.out]⟩, by simp [intOf]⟩
          · have hO : (tout 1 n r7 4 32 r10 (r13 % 16) es) = lvl (r10 % 16) := by simp [tout, onB, vol, hC, hD, hE]
            have HO := Lib.hid hO
            have eC := (i64_and1 n).trans hC
            have eD := (i64_and1 (r7 / 32)).trans hD
            have eE := (i64_and1 (r10 / 16)).trans hE
            clear hO hC hD hE
            have hv0 : 0 ≤ (r10 % 16) := by omega
            have hv1 : (r10 % 16) < 16 := by omega
            obtain ⟨hl0, hl1⟩ := lvl_bd (r10 % 16)
            go_wp2_with (first | (go_at_call 40; (with_reducible refine (rvalue_any _ _ _ (by omega) (by omega) oes pes).mono ?_); rintro e w3 ⟨rfl, rfl⟩) | (go_at_call 34; (with_reducible refine (level_any _ _ hv0 (by omega)).mono ?_); rintro e w3 ⟨rfl, rfl⟩))
            exact ⟨⟨3, by omega, rfl, by rw [show T.out _ 3 = (tout b0 n r7 1 8 r8 (r13 % 16) es) + (tout b1 n r7 2 16 r9 (r13 % 16) es) + (tout 1 n r7 4 32 r10 (r13 % 16) es) from rfl, HO.out]⟩, by simp [intOf]⟩
        · have hO : (tout 1 n r7 4 32 r10 (r13 % 16) es) = 0 := by simp [tout, onB, vol, hC, hD]
          have HO := Lib.hid hO
          have eC := (i64_and1 n).trans hC
          have eD := (i64_and1 (r7 / 32)).trans hD
          clear hO hC hD
          go_wp2_with (first | (go_at_call 40; (with_reducible refine (rvalue_any _ _ _ (by omega) (by omega) oes pes).mono ?_); rintro e w3 ⟨rfl, rfl⟩) | (go_at_call 34; (with_reducible refine (level_any _ _ hv0 (by omega)).mono ?_); rintro e w3 ⟨rfl, rfl⟩))
          exact ⟨⟨3, by omega, rfl, by rw [show T.out _ 3 = (tout b0 n r7 1 8 r8 (r13 % 16) es) + (tout b1 n r7 2 16 r9 (r13 % 16) es) + (tout 1 n r7 4 32 r10 (r13 % 16) es) from rfl, HO.out]; simp⟩, by simp [intOf]⟩
      · rcases (by omega : n % 2 = 1 ∨ n % 2 = 0 ∧ (r7 / 32) % 2 = 1 ∨ n % 2 = 0 ∧ (r7 / 32) % 2 = 0) with hC | ⟨hC, hD⟩ | ⟨hC, hD⟩
        · rcases (by omega : r10 / 16 % 2 = 1 ∨ r10 / 16 % 2 = 0) with hE | hE
          · have hO : (tout 0 n r7 4 32 r10 (r13 % 16) es) = lvl (shv (r13 % 16) es / 2) := by simp [tout, onB, vol, hB, hC, hE]
            have HO := Lib.hid hO
            have eB := (i64_and1 (r7 / 4)).trans hB
            have eC := (i64_and1 n).trans hC
            have eE := (i64_and1 (r10 / 16)).trans hE
            clear hO hB hC hE
            have hv0 : 0 ≤ (shv (r13 % 16) es / 2) := by omega
            have hv1 : (shv (r13 % 16) es / 2) < 16 := by omega
            obtain ⟨hl0, hl1⟩ := lvl_bd (shv (r13 % 16) es / 2)
            go_wp2_with (first | (go_at_call 40; (with_reducible refine (rvalue_any _ _ _ (by omega) (by omega) oes pes).mono ?_); rintro e w3 ⟨rfl, rfl⟩) | (go_at_call 34; (with_reducible refine (level_any _ _ hv0 (by omega)).mono ?_); rintro e w3 ⟨rfl, rfl⟩))
            exact ⟨⟨3, by omega, rfl, by rw [show T.out _ 3 = (tout b0 n r7 1 8 r8 (r13 % 16) es) + (tout b1 n r7 2 16 r9 (r13 % 16) es) + (tout 0 n r7 4 32 r10 (r13 % 16) es) from rfl, HO.out]⟩, by simp [intOf]⟩
          · have hO : (tout 0 n r7 4 32 r10 (r13 % 16) es) = lvl (r10 % 16) := by simp [tout, onB, vol, hB, hC, hE]
            have HO := Lib.hid hO
            have eB := (i64_and1 (r7 / 4)).trans hB
            have eC := (i64_and1 n).trans hC
            have eE := (i64_and1 (r10 / 16)).trans hE
            clear hO hB hC hE
            have hv0 : 0 ≤ (r10 % 16) := by omega
            have hv1 : (r10 % 16) < 16 := by omega
            obtain ⟨hl0, hl1⟩ := lvl_bd (r10 % 16)
            go_wp2_with (first | (go_at_call 40; (with_reducible refine (rvalue_any _ _ _ (by omega) (by omega) oes pes).mono ?_); rintro e w3 ⟨rfl, rfl⟩) | (go_at_call 34; (with_reducible refine (level_any _ _ hv0 (by omega)).mono ?_); rintro e w3 ⟨rfl, rfl⟩))
            exact ⟨⟨3, by omega, rfl, by rw [show T.out _ 3 = (tout b0 n r7 1 8 r8 (r13 % 16) es) + (tout b1 n r7 2 16 r9 (r13 % 16) es) + (tout 0 n r7 4 32 r10 (r13 % 16) es) from rfl, HO.out]⟩, by simp [intOf]⟩
        · rcases (by omega : r10 / 16 % 2 = 1 ∨ r10 / 16 % 2 = 0) with hE | hE
          · have hO : (tout 0 n r7 4 32 r10 (r13 % 16) es) = lvl (shv (r13 % 16) es / 2) := by simp [tout, onB, vol, hB, hC, hD, hE]
            have HO := Lib.hid hO
            have eB := (i64_and1 (r7 / 4)).trans hB
            have eC := (i64_and1 n).trans hC
            have eD := (i64_and1 (r7 / 32)).trans hD
            have eE := (i64_and1 (r10 / 16)).trans hE
            clear hO hB hC hD hE
            have hv0 : 0 ≤ (shv (r13 % 16) es / 2) := by omega
            have hv1 : (shv (r13 % 16) es / 2) < 16 := by omega
            obtain ⟨hl0, hl1⟩ := lvl_bd (shv (r13 % 16) es / 2)
            go_wp2_with (first | (go_at_call 40; (with_reducible refine (rvalue_any _ _ _ (by omega) (by omega) oes pes).mono ?_); rintro e w3 ⟨rfl, rfl⟩) | (go_at_call 34; (with_reducible refine (level_any _ _ hv0 (by omega)).mono ?_); rintro e w3 ⟨rfl, rfl⟩))
            exact ⟨⟨3, by omega, rfl, by rw [show T.out _ 3 = (tout b0 n r7 1 8 r8 (r13 % 16) es) + (tout b1 n r7 2 16 r9 (r13 % 16) es) + (tout 0 n r7 4 32 r10 (r13 % 16) es) from rfl, HO.out]⟩, by simp [intOf]⟩
          · have hO : (tout 0 n r7 4 32 r10 (r13 % 16) es) = lvl (r10 % 16) := by simp [tout, onB, vol, hB, hC, hD, hE]
            have HO := Lib.hid hO
            have eB := (i64_and1 (r7 / 4)).trans hB
            have eC := (i64_and1 n).trans hC
            have eD := (i64_and1 (r7 / 32)).trans hD
            have eE := (i64_and1 (r10 / 16)).trans hE
            clear hO hB hC hD hE
            have hv0 : 0 ≤ (r10 % 16) := by omega
            have hv1 : (r10 % 16) < 16 := by omega
            obtain ⟨hl0, hl1⟩ := lvl_bd (r10 % 16)
            go_wp2_with (first | (go_at_call 40; (with_reducible refine (rvalue_any _ _ _ (by omega) (by omega) oes pes).mono ?_); rintro e w3 ⟨rfl, rfl⟩) | (go_at_call 34; (with_reducible refine (level_any _ _ hv0 (by omega)).mono ?_); rintro e w3 ⟨rfl, rfl⟩))
            exact ⟨⟨3, by omega, rfl, by rw [show T.out _ 3 = (tout b0 n r7 1 8 r8 (r13 % 16) es) + (tout b1 n r7 2 16 r9 (r13 % 16) es) + (tout 0 n r7 4 32 r10 (r13 % 16) es) from rfl, HO.out]⟩, by simp [intOf]⟩
        · have hO : (tout 0 n r7 4 32 r10 (r13 % 16) es) = 0 := by simp [tout, onB, vol, hB, hC, hD]
          have HO := Lib.hid hO
          have eB := (i64_and1 (r7 / 4)).trans hB
          have eC := (i64_and1 n).trans hC
          have eD := (i64_and1 (r7 / 32)).trans hD
          clear hO hB hC hD
          go_wp2_with (first | (go_at_call 40; (with_reducible refine (rvalue_any _ _ _ (by omega) (by omega) oes pes).mono ?_); rintro e w3 ⟨rfl, rfl⟩) | (go_at_call 34; (with_reducible refine (level_any _ _ hv0 (by omega)).mono ?_); rintro e w3 ⟨rfl, rfl⟩))
          exact ⟨⟨3, by omega, rfl, by rw [show T.out _ 3 = (tout b0 n r7 1 8 r8 (r13 % 16) es) + (tout b1 n r7 2 16 r9 (r13 % 16) es) + (tout 0 n r7 4 32 r10 (r13 % 16) es) from rfl, HO.out]; simp⟩, by simp [intOf]⟩
      · rcases (by omega : n % 2 = 1 ∨ n % 2 = 0 ∧ (r7 / 32) % 2 = 1 ∨ n % 2 = 0 ∧ (r7 / 32) % 2 = 0) with hC | ⟨hC, hD⟩ | ⟨hC, hD⟩
        · have hO : (tout 0 n r7 4 32 r10 (r13 % 16) es) = 0 := by simp [tout, onB, vol, hB, hC]
          have HO := Lib.hid hO
          have eB := (i64_and1 (r7 / 4)).trans hB
          have eC := (i64_and1 n).trans hC
          clear hO hB hC
          go_wp2_with (first | (go_at_call 40; (with_reducible refine (rvalue_any _ _ _ (by omega) (by omega) oes pes).mono ?_); rintro e w3 ⟨rfl, rfl⟩) | (go_at_call 34; (with_reducible refine (level_any _ _ hv0 (by omega)).mono ?_); rintro e w3 ⟨rfl, rfl⟩))
          exact ⟨⟨3, by omega, rfl, by rw [show T.out _ 3 = (tout b0 n r7 1 8 r8 (r13 % 16) es) + (tout b1 n r7 2 16 r9 (r13 % 16) es) + (tout 0 n r7 4 32 r10 (r13 % 16) es) from rfl, HO.out]; simp⟩, by simp [intOf]⟩
        · have hO : (tout 0 n r7 4 32 r10 (r13 % 16) es) = 0 := by simp [tout, onB, vol, hB, hC, hD]
          have HO := Lib.hid hO
          have eB := (i64_and1 (r7 / 4)).trans hB
          have eC := (i64_and1 n).trans hC
          have eD := (i64_and1 (r7 / 32)).trans hD
          clear hO hB hC hD
          go_wp2_with (first | (go_at_call 40; (with_reducible refine (rvalue_any _ _ _ (by omega) (by omega) oes pes).mono ?_); rintro e w3 ⟨rfl, rfl⟩) | (go_at_call 34; (with_reducible refine (level_any _ _ hv0 (by omega)).mono ?_); rintro e w3 ⟨rfl, rfl⟩))
          exact ⟨⟨3, by omega, rfl, by rw [show T.out _ 3 = (tout b0 n r7 1 8 r8 (r13 % 16) es) + (tout b1 n r7 2 16 r9 (r13 % 16) es) + (tout 0 n r7 4 32 r10 (r13 % 16) es) from rfl, HO.out]; simp⟩, by simp [intOf]⟩
        · have hO : (tout 0 n r7 4 32 r10 (r13 % 16) es) = 0 := by simp [tout, onB, vol, hB, hC, hD]
          have HO := Lib.hid hO
          have eB := (i64_and1 (r7 / 4)).trans hB
          have eC := (i64_and1 n).trans hC
          have eD := (i64_and1 (r7 / 32)).trans hD
          clear hO hB hC hD
          go_wp2_with (first | (go_at_call 40; (with_reducible refine (rvalue_any _ _ _ (by omega) (by omega) oes pes).mono ?_); rintro e w3 ⟨rfl, rfl⟩) | (go_at_call 34; (with_reducible refine (level_any _ _ hv0 (by omega)).mono ?_); rintro e w3 ⟨rfl, rfl⟩))
          exact ⟨⟨3, by omega, rfl, by rw [show T.out _ 3 = (tout b0 n r7 1 8 r8 (r13 % 16) es) + (tout b1 n r7 2 16 r9 (r13 % 16) es) + (tout 0 n r7 4 32 r10 (r13 % 16) es) from rfl, HO.out]; simp⟩, by simp [intOf]⟩
    · go_wp2
      go_ret
      exact ⟨rfl, (Below.refl _ _).alloc (Nat.le_refl _) _⟩
end Go.Proofs.Ytfpgidflaaefeaa.CH

/- A sample whose loop is faded into what stands before it. -/
import Derived.Test.YtnmoiolddfboiaaTzH
namespace Go.Proofs.Ytnmoiolddfboiaa.TX
open Go.RowKit Go.Proofs.YtnmoiolddfboiaaW.PrintLast
set_option linter.unusedVariables false
set_option linter.unusedSimpArgs false
theorem mul_bd {a b : Int} (ha : -32768 ≤ a ∧ a ≤ 32768) (hb : 0 ≤ b ∧ b ≤ 4096) : -134217728 ≤ a * b ∧ a * b ≤ 134217728 := by
  have h1 : (-32768) * b ≤ a * b := Int.mul_le_mul_of_nonneg_right ha.1 hb.1
  have h2 : a * b ≤ 32768 * b := Int.mul_le_mul_of_nonneg_right ha.2 hb.1
  omega
def cv (v y : Int) (u k : Nat) : Int := (v * ((u : Int) - k) + y * k) / u
theorem cross_facts {v y : Int} {u k st n : Nat} (hv : -32768 ≤ v ∧ v ≤ 32768) (hy : -32768 ≤ y ∧ y ≤ 32768) (hk : k < u) (hu : u ≤ st) (hst : st < n) (hn : (n : Int) ≤ 4096) :
    wrap64 ((u : Int) - k) = (u : Int) - k ∧ wrap64 (v * ((u : Int) - k)) = v * ((u : Int) - k) ∧ wrap64 ((st : Int) - u) = (st : Int) - u ∧ wrap64 ((st : Int) - u + k) = (st : Int) - u + k ∧ ((st : Int) - u + k).toNat = st - u + k ∧ 0 ≤ (st : Int) - u + k ∧ (st : Int) - u + k < n ∧ wrap64 (y * k) = y * k ∧ wrap64 (v * ((u : Int) - k) + y * k) = v * ((u : Int) - k) + y * k ∧
    (-1000000000000000 ≤ v * ((u : Int) - k) + y * k ∧ v * ((u : Int) - k) + y * k ≤ 1000000000000000) := by
  have h1 := mul_bd hv (b := (u : Int) - k) ⟨by omega, by omega⟩
  have h2 := mul_bd hy (b := (k : Int)) ⟨by omega, by omega⟩
  exact ⟨wrap_in (by omega) (by omega), wrap_in (by omega) (by omega), wrap_in (by omega) (by omega), wrap_in (by omega) (by omega), by omega, by omega, by omega, wrap_in (by omega) (by omega), wrap_in (by omega) (by omega), by omega, by omega⟩
theorem i_facts {i en u : Nat} (hi : (i : Int) ≤ 1000000) (he : (en : Int) ≤ 4096) (hu : u ≤ en) : wrap64 ((en : Int) - u) = (en : Int) - u ∧ wrap64 ((i : Int) - ((en : Int) - u)) = (i : Int) - ((en : Int) - u) ∧ wrap64 ((u : Int) - 1) = (u : Int) - 1 := ⟨wrap_in (by omega) (by omega), wrap_in (by omega) (by omega), wrap_in (by omega) (by omega)⟩
set_option maxHeartbeats 16000000 in
set_option maxRecDepth 100000 in
theorem crossfn_in (i n c gs gn b o st en u : Nat) (v : Int) (s : S) (A : Option Addr) (xs : Nat → Int) (W : World) (hs8 : s.a8 = st) (hs9 : s.a9 = en) (hu : u ≤ st) (hse : st < en) (hen : en ≤ n) (hn4 : (n : Int) ≤ 4096) (hu0 : 0 < u) (hue : u ≤ en) (hi : (i : Int) ≤ 1000000) (k : Nat) (hik : i + u = en + k) (hk : k < u) (hv : -32768 ≤ v ∧ v ≤ 32768) (hx : ∀ j, j < n → -32768 ≤ xs j ∧ xs j ≤ 32768) (hS : W.heap[gs]? = some (.cells (s.cs A n c) 24 (0, 0))) (hK : W.heap[gn]? = some (.cells #[iv u] 3 (0, 0))) (hD : DataAt W A n b o xs) :
    Calls Try.prog 100 #[iv i, iv v, .pointer (some ⟨gs, 0, none⟩), .pointer (some ⟨gn, 0, none⟩)] W fun e w' => e = .returned (iv (cv v (xs (st - u + k)) u k)) ∧ Below W.heap.size W w' := by
  have tA := hD.top (by omega)
  subst tA
  obtain ⟨f1, f2, f3, f4, f5, f6, f7, f8, f9, f10⟩ := cross_facts hv (hx (st - u + k) (by omega)) hk hu (show st < n by omega) hn4
  obtain ⟨g1, g2, g3⟩ := i_facts hi (show (en : Int) ≤ 4096 by omega) hue
  have kk : (i : Int) - ((en : Int) - u) = k := by clear f1 f2 f3 f4 f5 f8 f9 g1 g2 g3; omega
  have x0 := hD.cell (st - u + k) (by clear f1 f2 f3 f4 f5 f8 f9 g1 g2 g3; omega)
  have k1 : (0 : Int) ≤ (k : Int) := by clear f1 f2 f3 f4 f5 f8 f9 g1 g2 g3; omega
  have k2 : (k : Int) ≤ (u : Int) - 1 := by clear f1 f2 f3 f4 f5 f8 f9 g1 g2 g3; omega
  have FC := Lib.hid (fun W => (floor_any (v * ((u : Int) - k) + xs (st - u + k) * k) u f10.1 f10.2 (Int.natCast_pos.2 hu0) (by clear f1 f2 f3 f4 f5 f8 f9 g1 g2 g3; omega) W : Calls Try.prog 99 #[iv (v * ((u : Int) - k) + xs (st - u + k) * k), iv u] W fun e w' => e = .returned (iv (cv v (xs (st - u + k)) u k)) ∧ W = w'))
  have NK := Lib.hid hK
  have NS := Lib.hid hS
  have H8 := Lib.hid hs8
  have kc := (bkCell hK 0).trans (show _ = some (iv u) from rfl)
  have q9 := (bkCell hS 9).trans (show _ = some (iv s.a9) from rfl)
  rw [hs9] at q9
  clear hK hS hD hx hs8 hs9 hu hse hen hue hik hk hv f10
  go_enter Try.func100, Try.ntmps100
  go_upto_region 4 with (go_at_call 87; (with_reducible refine (in_yes _ _ _ _ k1 k2).mono ?_); rintro e w3 ⟨rfl, rfl⟩)
  refine start_ (n := 21) (S := fun w' => w'.heap[gn]? = some (.cells #[iv u] 3 (0, 0)) ∧ w'.heap[gs]? = some (.cells (s.cs (some ⟨b, o, none⟩) n c) 24 (0, 0)) ∧ w'.cell? ⟨b, o + (st - u + k), none⟩ = some (iv (xs (st - u + k))) ∧ Below W.heap.size W w') (ds := []) #[false, false, false, false, false, false, false, false, false, false, false, false, false, false, false, false, false, false, false, false, false] (by kernel_rfl) rfl rfl ⟨NK.out, NS.out, x0, Below.drew (Below.refl _ _)⟩ (fun hHeld => ?_)
  refine pure_ (i := 0) (N := some 20) (v := ?_) (a' := ?_) #[true, false, false, false, false, false, false, false, false, false, false, false, false, false, false, false, false, false, false, false, false] rfl rfl (by kernel_rfl) (fun _ _ _ h => h) (Or.inl ⟨by rfl, ?_⟩) ?_ ?_
  rotate_left
  · intro w'
    go_simp
    with_reducible rfl
  rotate_left
  · simp only [Act.put, List.setIfInBounds_toArray, List.set_cons_zero, List.set_cons_succ, i64_w, i32_w, f1, f2, f3, f4, f5, f8, f9]
    rfl
  refine pure_ (i := 2) (N := some 22) (v := ?_) (a' := ?_) #[true, false, true, false, false, false, false, false, false, false, false, false, false, false, false, false, false, false, false, false, false] rfl rfl (by kernel_rfl) (fun _ _ _ h => h) (Or.inl ⟨by rfl, ?_⟩) ?_ ?_
  rotate_left
  · intro w'
    go_simp
    with_reducible rfl
  rotate_left
  · simp only [Act.put, List.setIfInBounds_toArray, List.set_cons_zero, List.set_cons_succ, i64_w, i32_w, f1, f2, f3, f4, f5, f8, f9]
    rfl
  refine pure_ (i := 5) (N := some 25) (v := ?_) (a' := ?_) #[true, false, true, false, false, true, false, false, false, false, false, false, false, false, false, false, false, false, false, false, false] rfl rfl (by kernel_rfl) (fun _ _ _ h => h) (Or.inl ⟨by rfl, ?_⟩) ?_ ?_
  rotate_left
  · intro w'
    go_simp
    with_reducible rfl
  rotate_left
  · simp only [Act.put, List.setIfInBounds_toArray, List.set_cons_zero, List.set_cons_succ, i64_w, i32_w, f1, f2, f3, f4, f5, f8, f9]
    rfl
  refine pure_ (i := 7) (N := some 27) (v := ?_) (a' := ?_) #[true, false, true, false, false, true, false, true, false, false, false, false, false, false, false, false, false, false, false, false, false] rfl rfl (by kernel_rfl) (fun _ _ _ h => h) (Or.inl ⟨by rfl, ?_⟩) ?_ ?_
  rotate_left
  · intro w'
    go_simp
    with_reducible rfl
  rotate_left
  · simp only [Act.put, List.setIfInBounds_toArray, List.set_cons_zero, List.set_cons_succ, i64_w, i32_w, f1, f2, f3, f4, f5, f8, f9]
    rfl
  refine pure_ (i := 11) (N := some 31) (v := ?_) (a' := ?_) #[true, false, true, false, false, true, false, true, false, false, false, true, false, false, false, false, false, false, false, false, false] rfl rfl (by kernel_rfl) (fun _ _ _ h => h) (Or.inl ⟨by rfl, ?_⟩) ?_ ?_
  rotate_left
  · intro w'
    go_simp
    with_reducible rfl
  rotate_left
  · simp only [Act.put, List.setIfInBounds_toArray, List.set_cons_zero, List.set_cons_succ, i64_w, i32_w, f1, f2, f3, f4, f5, f8, f9]
    rfl
  refine pure_ (i := 15) (N := some 35) (v := ?_) (a' := ?_) #[true, false, true, false, false, true, false, true, false, false, false, true, false, false, false, true, false, false, false, false, false] rfl rfl (by kernel_rfl) (fun _ _ _ h => h) (Or.inl ⟨by rfl, ?_⟩) ?_ ?_
  rotate_left
  · intro w'
    go_simp
    with_reducible rfl
  rotate_left
  · simp only [Act.put, List.setIfInBounds_toArray, List.set_cons_zero, List.set_cons_succ, i64_w, i32_w, f1, f2, f3, f4, f5, f8, f9]
    rfl
  refine take_ (i := 1) (N := some 21) (v := ?_) (a' := ?_) #[true, true, true, false, false, true, false, true, false, false, false, true, false, false, false, true, false, false, false, false, false] rfl rfl (by kernel_rfl) (fun _ _ _ h => h) (Or.inl ⟨by rfl, ?_⟩) hHeld ?_ ?_
  rotate_left
  · rintro w' ⟨s0, s1, s2, s3⟩
    have k0 := (bkCell s0 0).trans (show _ = some (iv u) from rfl)
    clear s0 s1 s2 s3
    go_simp
    with_reducible rfl
  rotate_left
  · simp only [Act.put, List.setIfInBounds_toArray, List.set_cons_zero, List.set_cons_succ, i64_w, i32_w, f1, f2, f3, f4, f5, f8, f9]
    rfl
  refine pure_ (i := 3) (N := some 23) (v := ?_) (a' := ?_) #[true, true, true, true, false, true, false, true, false, false, false, true, false, false, false, true, false, false, false, false, false] rfl rfl (by kernel_rfl) (fun _ _ _ h => h) (Or.inl ⟨by rfl, ?_⟩) ?_ ?_
  rotate_left
  · intro w'
    go_simp
    with_reducible rfl
  rotate_left
  · simp only [Act.put, List.setIfInBounds_toArray, List.set_cons_zero, List.set_cons_succ, i64_w, i32_w, f1, f2, f3, f4, f5, f8, f9]
    rfl
  refine pure_ (i := 4) (N := some 24) (v := ?_) (a' := ?_) #[true, true, true, true, true, true, false, true, false, false, false, true, false, false, false, true, false, false, false, false, false] rfl rfl (by kernel_rfl) (fun _ _ _ h => h) (Or.inl ⟨by rfl, ?_⟩) ?_ ?_
  rotate_left
  · intro w'
    go_simp
    with_reducible rfl
  rotate_left
  · simp only [Act.put, List.setIfInBounds_toArray, List.set_cons_zero, List.set_cons_succ, i64_w, i32_w, f1, f2, f3, f4, f5, f8, f9]
    rfl
  refine take_ (i := 6) (N := some 26) (v := ?_) (a' := ?_) #[true, true, true, true, true, true, true, true, false, false, false, true, false, false, false, true, false, false, false, false, false] rfl rfl (by kernel_rfl) (fun _ _ _ h => h) (Or.inl ⟨by rfl, ?_⟩) hHeld ?_ ?_
  rotate_left
  · rintro w' ⟨s0, s1, s2, s3⟩
    have q1 := (bkCell s1 1).trans (show _ = some (Value.slice (some ⟨b, o, none⟩) n c) from rfl)
    clear s0 s1 s2 s3
    go_simp
    with_reducible rfl
  rotate_left
  · simp only [Act.put, List.setIfInBounds_toArray, List.set_cons_zero, List.set_cons_succ, i64_w, i32_w, f1, f2, f3, f4, f5, f8, f9]
    rfl
  refine take_ (i := 8) (N := some 28) (v := ?_) (a' := ?_) #[true, true, true, true, true, true, true, true, true, false, false, true, false, false, false, true, false, false, false, false, false] rfl rfl (by kernel_rfl) (fun _ _ _ h => h) (Or.inl ⟨by rfl, ?_⟩) hHeld ?_ ?_
  rotate_left
  · rintro w' ⟨s0, s1, s2, s3⟩
    have q8 := (bkCell s1 8).trans (show _ = some (iv s.a8) from rfl)
    rw [H8.out] at q8
    clear s0 s1 s2 s3
    go_simp
    with_reducible rfl
  rotate_left
  · simp only [Act.put, List.setIfInBounds_toArray, List.set_cons_zero, List.set_cons_succ, i64_w, i32_w, f1, f2, f3, f4, f5, f8, f9]
    rfl
  refine take_ (i := 9) (N := some 29) (v := ?_) (a' := ?_) #[true, true, true, true, true, true, true, true, true, true, false, true, false, false, false, true, false, false, false, false, false] rfl rfl (by kernel_rfl) (fun _ _ _ h => h) (Or.inl ⟨by rfl, ?_⟩) hHeld ?_ ?_
  rotate_left
  · rintro w' ⟨s0, s1, s2, s3⟩
    have k0 := (bkCell s0 0).trans (show _ = some (iv u) from rfl)
    clear s0 s1 s2 s3
    go_simp
    with_reducible rfl
  rotate_left
  · simp only [Act.put, List.setIfInBounds_toArray, List.set_cons_zero, List.set_cons_succ, i64_w, i32_w, f1, f2, f3, f4, f5, f8, f9]
    rfl
  refine pure_ (i := 10) (N := some 30) (v := ?_) (a' := ?_) #[true, true, true, true, true, true, true, true, true, true, true, true, false, false, false, true, false, false, false, false, false] rfl rfl (by kernel_rfl) (fun _ _ _ h => h) (Or.inl ⟨by rfl, ?_⟩) ?_ ?_
  rotate_left
  · intro w'
    go_simp
    with_reducible rfl
  rotate_left
  · simp only [Act.put, List.setIfInBounds_toArray, List.set_cons_zero, List.set_cons_succ, i64_w, i32_w, f1, f2, f3, f4, f5, f8, f9]
    rfl
  refine pure_ (i := 12) (N := some 32) (v := ?_) (a' := ?_) #[true, true, true, true, true, true, true, true, true, true, true, true, true, false, false, true, false, false, false, false, false] rfl rfl (by kernel_rfl) (fun _ _ _ h => h) (Or.inl ⟨by rfl, ?_⟩) ?_ ?_
  rotate_left
  · intro w'
    go_simp
    with_reducible rfl
  rotate_left
  · simp only [Act.put, List.setIfInBounds_toArray, List.set_cons_zero, List.set_cons_succ, i64_w, i32_w, f1, f2, f3, f4, f5, f8, f9]
    rfl
  refine pure_ (i := 13) (N := some 33) (v := ?_) (a' := ?_) #[true, true, true, true, true, true, true, true, true, true, true, true, true, true, false, true, false, false, false, false, false] rfl rfl (by kernel_rfl) (fun _ _ _ h => h) (Or.inl ⟨by rfl, ?_⟩) ?_ ?_
  rotate_left
  · intro w'
    go_simp
    with_reducible rfl
  rotate_left
  · simp only [Act.put, List.setIfInBounds_toArray, List.set_cons_zero, List.set_cons_succ, i64_w, i32_w, f1, f2, f3, f4, f5, f8, f9]
    rfl
  refine take_ (i := 14) (N := some 34) (v := ?_) (a' := ?_) #[true, true, true, true, true, true, true, true, true, true, true, true, true, true, true, true, false, false, false, false, false] rfl rfl (by kernel_rfl) (fun _ _ _ h => h) (Or.inl ⟨by rfl, ?_⟩) hHeld ?_ ?_
  rotate_left
  · rintro w' ⟨s0, s1, s2, s3⟩
    clear s0 s1 s3
    go_simp
    with_reducible rfl
  rotate_left
  · simp only [Act.put, List.setIfInBounds_toArray, List.set_cons_zero, List.set_cons_succ, i64_w, i32_w, f1, f2, f3, f4, f5, f8, f9]
    rfl
  refine pure_ (i := 16) (N := some 36) (v := ?_) (a' := ?_) #[true, true, true, true, true, true, true, true, true, true, true, true, true, true, true, true, true, false, false, false, false] rfl rfl (by kernel_rfl) (fun _ _ _ h => h) (Or.inl ⟨by rfl, ?_⟩) ?_ ?_
  rotate_left
  · intro w'
    go_simp
    with_reducible rfl
  rotate_left
  · simp only [Act.put, List.setIfInBounds_toArray, List.set_cons_zero, List.set_cons_succ, i64_w, i32_w, f1, f2, f3, f4, f5, f8, f9]
    rfl
  refine pure_ (i := 17) (N := some 37) (v := ?_) (a' := ?_) #[true, true, true, true, true, true, true, true, true, true, true, true, true, true, true, true, true, true, false, false, false] rfl rfl (by kernel_rfl) (fun _ _ _ h => h) (Or.inl ⟨by rfl, ?_⟩) ?_ ?_
  rotate_left
  · intro w'
    go_simp
    with_reducible rfl
  rotate_left
  · simp only [Act.put, List.setIfInBounds_toArray, List.set_cons_zero, List.set_cons_succ, i64_w, i32_w, f1, f2, f3, f4, f5, f8, f9]
    rfl
  refine take_ (i := 18) (N := some 38) (v := ?_) (a' := ?_) #[true, true, true, true, true, true, true, true, true, true, true, true, true, true, true, true, true, true, true, false, false] rfl rfl (by kernel_rfl) (fun _ _ _ h => h) (Or.inl ⟨by rfl, ?_⟩) hHeld ?_ ?_
  rotate_left
  · rintro w' ⟨s0, s1, s2, s3⟩
    have k0 := (bkCell s0 0).trans (show _ = some (iv u) from rfl)
    clear s0 s1 s2 s3
    go_simp
    with_reducible rfl
  rotate_left
  · simp only [Act.put, List.setIfInBounds_toArray, List.set_cons_zero, List.set_cons_succ, i64_w, i32_w, f1, f2, f3, f4, f5, f8, f9]
    rfl
  refine one_ (i := 19) (N := some 39) #[true, true, true, true, true, true, true, true, true, true, true, true, true, true, true, true, true, true, true, true, false] rfl rfl (by kernel_rfl) (by decide) (fun K hK => ?_)
  obtain ⟨s0, s1, s2, s3⟩ := hHeld
  refine goes_ Try.func99 (by kernel_rfl) rfl #[iv (v * ((u : Int) - k) + xs (st - u + k) * k), iv u] (by rfl) rfl rfl (by simp only [List.map_toArray, List.map_cons, List.map_nil]; rfl) ?_
  with_reducible refine (FC.out _).mono ?_
  rintro e w4 ⟨rfl, rfl⟩
  refine ⟨_, rfl, ?_⟩
  refine hK.out _ _ ⟨s0, s1, s2, s3⟩ (fun hHeld => ?_)
  clear hK K
  refine norm_ (a' := ?_) ?_ ?_
  rotate_left
  · show Act.put _ (some 39) _ = _
    simp only [Act.put, List.setIfInBounds_toArray, List.set_cons_zero, List.set_cons_succ, i64_w, i32_w, f1, f2, f3, f4, f5, f8, f9]
    rfl
  refine pure_ (i := 20) (N := some 6) (v := ?_) (a' := ?_) #[true, true, true, true, true, true, true, true, true, true, true, true, true, true, true, true, true, true, true, true, true] rfl rfl (by kernel_rfl) (fun _ _ _ h => h) (Or.inl ⟨by rfl, ?_⟩) ?_ ?_
  rotate_left
  · intro w'
    go_simp
    with_reducible rfl
  rotate_left
  · simp only [Act.put, List.setIfInBounds_toArray, List.set_cons_zero, List.set_cons_succ, i64_w, i32_w, f1, f2, f3, f4, f5, f8, f9]
    rfl
  refine done_ (by kernel_rfl) ?_
  go_wp2
  go_ret
  exact ⟨rfl, by first | exact Below.refl _ _ | exact Below.drew (Below.refl _ _) | exact bdN (Below.refl _ _) _⟩
set_option maxHeartbeats 16000000 in
set_option maxRecDepth 100000 in
theorem crossfn_out (i n c gs gn b o st en u : Nat) (v : Int) (s : S) (A : Option Addr) (xs : Nat → Int) (W : World) (hs8 : s.a8 = st) (hs9 : s.a9 = en) (hu : u ≤ st) (hse : st < en) (hen : en ≤ n) (hn4 : (n : Int) ≤ 4096) (hu0 : 0 < u) (hue : u ≤ en) (hi : (i : Int) ≤ 1000000) (hik : i + u < en ∨ en ≤ i) (hS : W.heap[gs]? = some (.cells (s.cs A n c) 24 (0, 0))) (hK : W.heap[gn]? = some (.cells #[iv u] 3 (0, 0))) (hD : DataAt W A n b o xs) :
    Calls Try.prog 100 #[iv i, iv v, .pointer (some ⟨gs, 0, none⟩), .pointer (some ⟨gn, 0, none⟩)] W fun e w' => e = .returned (iv v) ∧ Below W.heap.size W w' := by
  obtain ⟨g1, g2, g3⟩ := i_facts hi (show (en : Int) ≤ 4096 by omega) hue
  have kk := Lib.hid (show (i : Int) - ((en : Int) - u) < 0 ∨ (u : Int) - 1 < (i : Int) - ((en : Int) - u) by clear g1 g2 g3; omega)
  have kc := (bkCell hK 0).trans (show _ = some (iv u) from rfl)
  have q9 := (bkCell hS 9).trans (show _ = some (iv s.a9) from rfl)
  rw [hs9] at q9
  clear hK hS hD hs8 hs9 hu hse hen hue hik
  go_enter Try.func100, Try.ntmps100
  go_wp2_with (go_at_call 87; (with_reducible refine (in_no _ _ _ _ kk.out).mono ?_); rintro e w3 ⟨rfl, rfl⟩)
  go_ret
  exact ⟨rfl, Below.refl _ _⟩
end Go.Proofs.Ytnmoiolddfboiaa.TX

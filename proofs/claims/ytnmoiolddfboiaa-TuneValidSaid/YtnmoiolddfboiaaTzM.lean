/- A sample that is faded: the closure. -/
import Derived.Test.YtnmoiolddfboiaaTzE
import Derived.Deep.MidRow
namespace Go.Proofs.Ytnmoiolddfboiaa.TZ
open Go.Proofs.Ytnmoiolddfboiaa.TX
open Go.RowKit Go.Proofs.YtnmoiolddfboiaaW.PrintLast
set_option linter.unusedVariables false
set_option linter.unusedSimpArgs false
theorem wrap_in {x : Int} (h0 : -1000000000000 ≤ x) (h1 : x ≤ 1000000000000) : wrap64 x = x := by unfold wrap64; omega
theorem addPlain {w : World} {a : Addr} {v : Value} (i : Nat) (h : w.cell? (a.add i) = some v) : a.add i = ⟨a.block, a.off + i, none⟩ := by
  have hs := World.cell?_spot h
  obtain ⟨b, o, s⟩ := a
  unfold Addr.add at hs ⊢
  split <;> simp_all
theorem plainZero {w : World} {a : Addr} {v : Value} (h : w.cell? (a.add 0) = some v) : a = ⟨a.block, a.off, none⟩ := by
  have hs := World.cell?_spot h
  obtain ⟨b, o, s⟩ := a
  simp [Addr.add] at hs
  rw [hs]
theorem dataOf {w : World} {A : Option Addr} {len cap : Nat} {zs : List Int} (h : (A = none ∧ len = 0 ∧ cap = 0 ∧ zs = []) ∨ ∃ x, A = some x ∧ len ≤ cap ∧ cap ≤ maxLen ∧ zs.length = cap ∧ (∀ i, i < zs.length → w.cell? (x.add i) = some (.int .i64 (zs.getD i 0))) ∧ ∀ n ∈ zs, (Lit.int .i64 n).wf = true) :
    len ≤ cap ∧ ∃ b o, DataAt w A len b o (fun i => zs.getD i 0) := by
  rcases h with ⟨rfl, rfl, rfl, rfl⟩ | ⟨x, rfl, hl, _, hz, hc, _⟩
  · exact ⟨Nat.le_refl _, 0, 0, fun h => by omega, fun h => by omega, fun i h => by omega⟩
  · refine ⟨hl, x.block, x.off, fun hp => congrArg some (plainZero (hc 0 (by omega))), fun hp => ?_, fun i hi => ?_⟩
    · have h0 := hc 0 (by omega)
      have := World.block_lt_of_cell? _ _ h0
      rwa [addPlain 0 h0] at this
    · have h0 := hc i (by omega)
      rwa [addPlain i h0] at h0
theorem ownPos {w : World} {B n : Nat} {v : Value} {xs : List Value} (h : w.ownsRow B 3 1 v n xs) (hn : 0 < n) : ∃ g cap, v = .slice (some ⟨g, 0, none⟩) n cap ∧ B ≤ g := by
  rcases h.2 with ⟨_, h1⟩ | ⟨g, cap, cur, rfl, h1, _⟩
  · omega
  · exact ⟨g, cap, rfl, h1⟩
theorem wrap_succ2 {u k en n : Nat} (hk : k < u) (hu : u ≤ en) (he : en ≤ n) (hn : (n : Int) ≤ 4096) : wrap64 ((k : Int) + 1) = (k : Int) + 1 := wrap_in (by omega) (by omega)
theorem mulB {a b A B : Int} (ha : -A ≤ a ∧ a ≤ A) (hb : -B ≤ b ∧ b ≤ B) : -(A * B) ≤ a * b ∧ a * b ≤ A * B := by
  have hA : 0 ≤ A := by omega
  have hB : 0 ≤ B := by omega
  rcases Int.lt_or_le b 0 with h | h
  · have h1 : a * b ≤ (-A) * b := Int.mul_le_mul_of_nonpos_right ha.1 (by omega)
    have h2 : A * b ≤ a * b := Int.mul_le_mul_of_nonpos_right ha.2 (by omega)
    have h3 : A * (-b) ≤ A * B := Int.mul_le_mul_of_nonneg_left (by omega) hA
    rw [Int.neg_mul] at h1
    rw [Int.mul_neg] at h3
    omega
  · have h1 : a * b ≤ A * b := Int.mul_le_mul_of_nonneg_right ha.2 h
    have h2 : (-A) * b ≤ a * b := Int.mul_le_mul_of_nonneg_right ha.1 h
    have h3 : A * b ≤ A * B := Int.mul_le_mul_of_nonneg_left hb.2 hA
    rw [Int.neg_mul] at h2
    omega
theorem divB {a d M : Int} (hd : 0 < d) (h : -M ≤ a ∧ a ≤ M) : -M ≤ a / d ∧ a / d ≤ M := by
  have hM : 0 ≤ M := by omega
  have h1 : M * 1 ≤ M * d := Int.mul_le_mul_of_nonneg_left (by omega) hM
  exact ⟨Int.le_ediv_of_mul_le hd (by rw [Int.neg_mul]; omega), Int.ediv_le_of_le_mul hd (by omega)⟩
def fq (fi la : Int) (fr tz i : Nat) : Int := ((la - fi) * ((i : Int) - fr)) / ((tz : Int) - fr)
def fv (v fi la : Int) (fr tz i : Nat) : Int := nr (v * (fi + fq fi la fr tz i)) 1000
theorem fade_facts {v fi la : Int} {fr tz i n : Nat} (hv : -32768 ≤ v ∧ v ≤ 32768) (hf : 0 ≤ fi ∧ fi ≤ 10000) (hl : 0 ≤ la ∧ la ≤ 10000) (h1 : fr ≤ i) (h2 : i < tz) (h3 : tz ≤ n) (hn : (n : Int) ≤ 4096) (q : Int) (hq : q = fq fi la fr tz i) :
    wrap64 (la - fi) = la - fi ∧ wrap64 ((i : Int) - fr) = (i : Int) - fr ∧ wrap64 ((la - fi) * ((i : Int) - fr)) = (la - fi) * ((i : Int) - fr) ∧ wrap64 ((tz : Int) - fr) = (tz : Int) - fr ∧ wrap64 (fi + q) = fi + q ∧ wrap64 (v * (fi + q)) = v * (fi + q) ∧
    (-1000000000000000 ≤ (la - fi) * ((i : Int) - fr) ∧ (la - fi) * ((i : Int) - fr) ≤ 1000000000000000) ∧ (0 < (tz : Int) - fr ∧ (tz : Int) - fr ≤ 1000000000000000) ∧ (-1000000000000000 ≤ v * (fi + q) ∧ v * (fi + q) ≤ 1000000000000000) := by
  have a1 := mulB (a := la - fi) (b := (i : Int) - fr) (A := 10000) (B := 4096) ⟨by omega, by omega⟩ ⟨by omega, by omega⟩
  have a2 := divB (a := (la - fi) * ((i : Int) - fr)) (d := (tz : Int) - fr) (M := 40960000) (by omega) ⟨by omega, by omega⟩
  have a3 : -40960000 ≤ q ∧ q ≤ 40960000 := by rw [hq]; exact a2
  have a4 := mulB (a := v) (b := fi + q) (A := 32768) (B := 50000000) hv ⟨by clear a2; omega, by clear a2; omega⟩
  clear a2 hq
  exact ⟨wrap_in (by omega) (by omega), wrap_in (by omega) (by omega), wrap_in (by omega) (by omega), wrap_in (by omega) (by omega), wrap_in (by omega) (by omega), by unfold wrap64; omega, ⟨by omega, by omega⟩, ⟨by omega, by omega⟩, by omega, by omega⟩
set_option maxHeartbeats 16000000 in
set_option maxRecDepth 100000 in
theorem fadefn_in (i n fr tz g2 g3 g4 g5 : Nat) (v fi la : Int) (W : World) (hv : -32768 ≤ v ∧ v ≤ 32768) (hf : 0 ≤ fi ∧ fi ≤ 10000) (hl : 0 ≤ la ∧ la ≤ 10000) (h1 : fr ≤ i) (h2 : i < tz) (h3 : tz ≤ n) (hn : (n : Int) ≤ 4096) (c2 : W.cell? ⟨g2, 0, none⟩ = some (iv fr)) (c3 : W.cell? ⟨g3, 0, none⟩ = some (iv tz)) (c4 : W.cell? ⟨g4, 0, none⟩ = some (iv fi)) (c5 : W.cell? ⟨g5, 0, none⟩ = some (iv la)) :
    Calls Try.prog 97 #[iv i, iv v, .pointer (some ⟨g2, 0, none⟩), .pointer (some ⟨g3, 0, none⟩), .pointer (some ⟨g4, 0, none⟩), .pointer (some ⟨g5, 0, none⟩)] W fun e w' => e = .returned (iv (fv v fi la fr tz i)) ∧ Below W.heap.size W w' := by
  obtain ⟨q, hq⟩ : ∃ q, q = fq fi la fr tz i := ⟨_, rfl⟩
  obtain ⟨f1, f2, f3, f4, f5, f6, f7, f8, f9⟩ := fade_facts hv hf hl h1 h2 h3 hn q hq
  have FC := Lib.hid (fun W => hq ▸ floor_any ((la - fi) * ((i : Int) - fr)) ((tz : Int) - fr) f7.1 f7.2 f8.1 f8.2 W : ∀ W, Calls Try.prog 99 #[iv ((la - fi) * ((i : Int) - fr)), iv ((tz : Int) - fr)] W fun e w' => e = .returned (iv q) ∧ W = w')
  have NC := Lib.hid (fun W => nearest_any (v * (fi + q)) 1000 f9.1 f9.2 (by decide) (by decide) W)
  have e1 : decide ((i : Int) < (fr : Int)) = false := decide_eq_false (by clear f1 f2 f3 f4 f5 f6; omega)
  have e2 : decide ((tz : Int) ≤ (i : Int)) = false := decide_eq_false (by clear f1 f2 f3 f4 f5 f6; omega)
  have n1 : decide (i < fr) = false := decide_eq_false (by clear f1 f2 f3 f4 f5 f6; omega)
  have n2 : decide (tz ≤ i) = false := decide_eq_false (by clear f1 f2 f3 f4 f5 f6; omega)
  have n3 : (i < fr) = False := eq_false (by clear f1 f2 f3 f4 f5 f6; omega)
  have n4 : (tz ≤ i) = False := eq_false (by clear f1 f2 f3 f4 f5 f6; omega)
  have E : fv v fi la fr tz i = nr (v * (fi + q)) 1000 := by unfold fv; rw [hq]
  rw [E]
  clear E hq h1 h2 h3 hn hv hf hl f7 f8 f9
  go_enter Try.func97, Try.ntmps97
  go_upto_region 3 with (fail)
  refine start_ (n := 17) (S := fun w' => w'.cell? ⟨g2, 0, none⟩ = some (iv fr) ∧ w'.cell? ⟨g3, 0, none⟩ = some (iv tz) ∧ w'.cell? ⟨g4, 0, none⟩ = some (iv fi) ∧ w'.cell? ⟨g5, 0, none⟩ = some (iv la)) (ds := []) #[false, false, false, false, false, false, false, false, false, false, false, false, false, false, false, false, false] (by kernel_rfl) rfl rfl ⟨c2, c3, c4, c5⟩ (fun hHeld => ?_)
  refine pure_ (i := 0) (N := some 18) (v := ?_) (a' := ?_) #[true, false, false, false, false, false, false, false, false, false, false, false, false, false, false, false, false] rfl rfl (by kernel_rfl) (fun _ _ _ h => h) (Or.inl ⟨by rfl, ?_⟩) ?_ ?_
  rotate_left
  · intro w'
    go_simp
    with_reducible rfl
  rotate_left
  · simp only [Act.put, List.setIfInBounds_toArray, List.set_cons_zero, List.set_cons_succ, i64_w, i32_w, f1, f2, f3, f4, f5, f6]
    rfl
  refine pure_ (i := 5) (N := some 23) (v := ?_) (a' := ?_) #[true, false, false, false, false, true, false, false, false, false, false, false, false, false, false, false, false] rfl rfl (by kernel_rfl) (fun _ _ _ h => h) (Or.inl ⟨by rfl, ?_⟩) ?_ ?_
  rotate_left
  · intro w'
    go_simp
    with_reducible rfl
  rotate_left
  · simp only [Act.put, List.setIfInBounds_toArray, List.set_cons_zero, List.set_cons_succ, i64_w, i32_w, f1, f2, f3, f4, f5, f6]
    rfl
  refine take_ (i := 1) (N := some 19) (v := ?_) (a' := ?_) #[true, true, false, false, false, true, false, false, false, false, false, false, false, false, false, false, false] rfl rfl (by kernel_rfl) (fun _ _ _ h => h) (Or.inl ⟨by rfl, ?_⟩) hHeld ?_ ?_
  rotate_left
  · rintro w' ⟨s0, s1, s2, s3⟩
    clear s0 s1 s3
    go_simp
    with_reducible rfl
  rotate_left
  · simp only [Act.put, List.setIfInBounds_toArray, List.set_cons_zero, List.set_cons_succ, i64_w, i32_w, f1, f2, f3, f4, f5, f6]
    rfl
  refine take_ (i := 2) (N := some 20) (v := ?_) (a' := ?_) #[true, true, true, false, false, true, false, false, false, false, false, false, false, false, false, false, false] rfl rfl (by kernel_rfl) (fun _ _ _ h => h) (Or.inl ⟨by rfl, ?_⟩) hHeld ?_ ?_
  rotate_left
  · rintro w' ⟨s0, s1, s2, s3⟩
    clear s0 s1 s2
    go_simp
    with_reducible rfl
  rotate_left
  · simp only [Act.put, List.setIfInBounds_toArray, List.set_cons_zero, List.set_cons_succ, i64_w, i32_w, f1, f2, f3, f4, f5, f6]
    rfl
  refine take_ (i := 3) (N := some 21) (v := ?_) (a' := ?_) #[true, true, true, true, false, true, false, false, false, false, false, false, false, false, false, false, false] rfl rfl (by kernel_rfl) (fun _ _ _ h => h) (Or.inl ⟨by rfl, ?_⟩) hHeld ?_ ?_
  rotate_left
  · rintro w' ⟨s0, s1, s2, s3⟩
    clear s0 s1 s3
    go_simp
    with_reducible rfl
  rotate_left
  · simp only [Act.put, List.setIfInBounds_toArray, List.set_cons_zero, List.set_cons_succ, i64_w, i32_w, f1, f2, f3, f4, f5, f6]
    rfl
  refine pure_ (i := 4) (N := some 22) (v := ?_) (a' := ?_) #[true, true, true, true, true, true, false, false, false, false, false, false, false, false, false, false, false] rfl rfl (by kernel_rfl) (fun _ _ _ h => h) (Or.inl ⟨by rfl, ?_⟩) ?_ ?_
  rotate_left
  · intro w'
    go_simp
    with_reducible rfl
  rotate_left
  · simp only [Act.put, List.setIfInBounds_toArray, List.set_cons_zero, List.set_cons_succ, i64_w, i32_w, f1, f2, f3, f4, f5, f6]
    rfl
  refine take_ (i := 6) (N := some 24) (v := ?_) (a' := ?_) #[true, true, true, true, true, true, true, false, false, false, false, false, false, false, false, false, false] rfl rfl (by kernel_rfl) (fun _ _ _ h => h) (Or.inl ⟨by rfl, ?_⟩) hHeld ?_ ?_
  rotate_left
  · rintro w' ⟨s0, s1, s2, s3⟩
    clear s1 s2 s3
    go_simp
    with_reducible rfl
  rotate_left
  · simp only [Act.put, List.setIfInBounds_toArray, List.set_cons_zero, List.set_cons_succ, i64_w, i32_w, f1, f2, f3, f4, f5, f6]
    rfl
  refine pure_ (i := 7) (N := some 25) (v := ?_) (a' := ?_) #[true, true, true, true, true, true, true, true, false, false, false, false, false, false, false, false, false] rfl rfl (by kernel_rfl) (fun _ _ _ h => h) (Or.inl ⟨by rfl, ?_⟩) ?_ ?_
  rotate_left
  · intro w'
    go_simp
    with_reducible rfl
  rotate_left
  · simp only [Act.put, List.setIfInBounds_toArray, List.set_cons_zero, List.set_cons_succ, i64_w, i32_w, f1, f2, f3, f4, f5, f6]
    rfl
  refine pure_ (i := 8) (N := some 26) (v := ?_) (a' := ?_) #[true, true, true, true, true, true, true, true, true, false, false, false, false, false, false, false, false] rfl rfl (by kernel_rfl) (fun _ _ _ h => h) (Or.inl ⟨by rfl, ?_⟩) ?_ ?_
  rotate_left
  · intro w'
    go_simp
    with_reducible rfl
  rotate_left
  · simp only [Act.put, List.setIfInBounds_toArray, List.set_cons_zero, List.set_cons_succ, i64_w, i32_w, f1, f2, f3, f4, f5, f6]
    rfl
  refine take_ (i := 9) (N := some 27) (v := ?_) (a' := ?_) #[true, true, true, true, true, true, true, true, true, true, false, false, false, false, false, false, false] rfl rfl (by kernel_rfl) (fun _ _ _ h => h) (Or.inl ⟨by rfl, ?_⟩) hHeld ?_ ?_
  rotate_left
  · rintro w' ⟨s0, s1, s2, s3⟩
    clear s0 s2 s3
    go_simp
    with_reducible rfl
  rotate_left
  · simp only [Act.put, List.setIfInBounds_toArray, List.set_cons_zero, List.set_cons_succ, i64_w, i32_w, f1, f2, f3, f4, f5, f6]
    rfl
  refine take_ (i := 10) (N := some 28) (v := ?_) (a' := ?_) #[true, true, true, true, true, true, true, true, true, true, true, false, false, false, false, false, false] rfl rfl (by kernel_rfl) (fun _ _ _ h => h) (Or.inl ⟨by rfl, ?_⟩) hHeld ?_ ?_
  rotate_left
  · rintro w' ⟨s0, s1, s2, s3⟩
    clear s1 s2 s3
    go_simp
    with_reducible rfl
  rotate_left
  · simp only [Act.put, List.setIfInBounds_toArray, List.set_cons_zero, List.set_cons_succ, i64_w, i32_w, f1, f2, f3, f4, f5, f6]
    rfl
  refine pure_ (i := 11) (N := some 29) (v := ?_) (a' := ?_) #[true, true, true, true, true, true, true, true, true, true, true, true, false, false, false, false, false] rfl rfl (by kernel_rfl) (fun _ _ _ h => h) (Or.inl ⟨by rfl, ?_⟩) ?_ ?_
  rotate_left
  · intro w'
    go_simp
    with_reducible rfl
  rotate_left
  · simp only [Act.put, List.setIfInBounds_toArray, List.set_cons_zero, List.set_cons_succ, i64_w, i32_w, f1, f2, f3, f4, f5, f6]
    rfl
  refine one_ (i := 12) (N := some 30) #[true, true, true, true, true, true, true, true, true, true, true, true, true, false, false, false, false] rfl rfl (by kernel_rfl) (by decide) (fun K hK => ?_)
  obtain ⟨s0, s1, s2, s3⟩ := hHeld
  refine goes_ Try.func99 (by kernel_rfl) rfl #[iv ((la - fi) * ((i : Int) - fr)), iv ((tz : Int) - fr)] (by rfl) rfl rfl (by simp only [List.map_toArray, List.map_cons, List.map_nil]; rfl) ?_
  with_reducible refine (FC.out _).mono ?_
  rintro e w4 ⟨rfl, rfl⟩
  refine ⟨_, rfl, ?_⟩
  refine hK.out _ _ ⟨s0, s1, s2, s3⟩ (fun hHeld => ?_)
  clear hK K
  refine norm_ (a' := ?_) ?_ ?_
  rotate_left
  · show Act.put _ (some 30) _ = _
    simp only [Act.put, List.setIfInBounds_toArray, List.set_cons_zero, List.set_cons_succ, i64_w, i32_w, f1, f2, f3, f4, f5, f6]
    rfl
  refine pure_ (i := 13) (N := some 31) (v := ?_) (a' := ?_) #[true, true, true, true, true, true, true, true, true, true, true, true, true, true, false, false, false] rfl rfl (by kernel_rfl) (fun _ _ _ h => h) (Or.inl ⟨by rfl, ?_⟩) ?_ ?_
  rotate_left
  · intro w'
    go_simp
    with_reducible rfl
  rotate_left
  · simp only [Act.put, List.setIfInBounds_toArray, List.set_cons_zero, List.set_cons_succ, i64_w, i32_w, f1, f2, f3, f4, f5, f6]
    rfl
  refine pure_ (i := 14) (N := some 32) (v := ?_) (a' := ?_) #[true, true, true, true, true, true, true, true, true, true, true, true, true, true, true, false, false] rfl rfl (by kernel_rfl) (fun _ _ _ h => h) (Or.inl ⟨by rfl, ?_⟩) ?_ ?_
  rotate_left
  · intro w'
    go_simp
    with_reducible rfl
  rotate_left
  · simp only [Act.put, List.setIfInBounds_toArray, List.set_cons_zero, List.set_cons_succ, i64_w, i32_w, f1, f2, f3, f4, f5, f6]
    rfl
  refine one_ (i := 15) (N := some 33) #[true, true, true, true, true, true, true, true, true, true, true, true, true, true, true, true, false] rfl rfl (by kernel_rfl) (by decide) (fun K hK => ?_)
  obtain ⟨s0, s1, s2, s3⟩ := hHeld
  refine goes_ Try.func98 (by kernel_rfl) rfl #[iv (v * (fi + q)), iv 1000] (by rfl) rfl rfl (by simp only [List.map_toArray, List.map_cons, List.map_nil]; rfl) ?_
  with_reducible refine (NC.out _).mono ?_
  rintro e w4 ⟨rfl, rfl⟩
  refine ⟨_, rfl, ?_⟩
  refine hK.out _ _ ⟨s0, s1, s2, s3⟩ (fun hHeld => ?_)
  clear hK K
  refine norm_ (a' := ?_) ?_ ?_
  rotate_left
  · show Act.put _ (some 33) _ = _
    simp only [Act.put, List.setIfInBounds_toArray, List.set_cons_zero, List.set_cons_succ, i64_w, i32_w, f1, f2, f3, f4, f5, f6]
    rfl
  refine pure_ (i := 16) (N := some 8) (v := ?_) (a' := ?_) #[true, true, true, true, true, true, true, true, true, true, true, true, true, true, true, true, true] rfl rfl (by kernel_rfl) (fun _ _ _ h => h) (Or.inl ⟨by rfl, ?_⟩) ?_ ?_
  rotate_left
  · intro w'
    go_simp
    with_reducible rfl
  rotate_left
  · simp only [Act.put, List.setIfInBounds_toArray, List.set_cons_zero, List.set_cons_succ, i64_w, i32_w, f1, f2, f3, f4, f5, f6]
    rfl
  refine done_ (by kernel_rfl) ?_
  go_wp2
  go_ret
  exact ⟨rfl, by first | exact Below.refl _ _ | exact Below.drew (Below.refl _ _) | exact bdN (Below.refl _ _) _⟩
set_option maxHeartbeats 4000000 in
set_option maxRecDepth 100000 in
theorem fadefn_out (i fr tz g2 g3 g4 g5 : Nat) (v fi la : Int) (W : World) (h : i < fr ∨ tz ≤ i) (c2 : W.cell? ⟨g2, 0, none⟩ = some (iv fr)) (c3 : W.cell? ⟨g3, 0, none⟩ = some (iv tz)) (c4 : W.cell? ⟨g4, 0, none⟩ = some (iv fi)) (c5 : W.cell? ⟨g5, 0, none⟩ = some (iv la)) :
    Calls Try.prog 97 #[iv i, iv v, .pointer (some ⟨g2, 0, none⟩), .pointer (some ⟨g3, 0, none⟩), .pointer (some ⟨g4, 0, none⟩), .pointer (some ⟨g5, 0, none⟩)] W fun e w' => e = .returned (iv v) ∧ Below W.heap.size W w' := by
  by_cases h1 : i < fr
  · have e1 : decide ((i : Int) < (fr : Int)) = true := decide_eq_true (by omega)
    have n1 : decide (i < fr) = true := decide_eq_true h1
    have n3 : (i < fr) = True := eq_true h1
    clear h h1
    go_enter Try.func97, Try.ntmps97
    go_wp2
    go_ret
    exact ⟨rfl, Below.refl _ _⟩
  · have e1 : decide ((i : Int) < (fr : Int)) = false := decide_eq_false (by omega)
    have e2 : decide ((tz : Int) ≤ (i : Int)) = true := decide_eq_true (by omega)
    have n1 : decide (i < fr) = false := decide_eq_false h1
    have n2 : decide (tz ≤ i) = true := decide_eq_true (by omega)
    have n3 : (i < fr) = False := eq_false h1
    have n4 : (tz ≤ i) = True := eq_true (by omega)
    clear h h1
    go_enter Try.func97, Try.ntmps97
    go_wp2
    go_ret
    exact ⟨rfl, Below.refl _ _⟩
end Go.Proofs.Ytnmoiolddfboiaa.TZ

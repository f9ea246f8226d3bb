/- A law about the tone chip: a tone alone is high and low in turns of as many steps as its period. -/
import Derived.Test.YtfpgidflaaefeaaChL
namespace Go.Proofs.Ytfpgidflaaefeaa.CH
open Go.RowKit Go.Proofs.YtfpgidflaaefeaaW.PrintLast
set_option linter.unusedVariables false
set_option linter.unusedSimpArgs false
theorem sq_c (p : Int) (k : Nat) (h0 : 1 ≤ p) : (if p ≤ (k : Int) % p + 1 then 0 else (k : Int) % p + 1) = ((k + 1 : Nat) : Int) % p := by
  have e1 := Int.emod_add_mul_ediv (k : Int) p
  have e2 := Int.emod_lt_of_pos (k : Int) (show 0 < p by omega)
  have e3 := Int.emod_nonneg (k : Int) (show p ≠ 0 by omega)
  have e : ((k + 1 : Nat) : Int) = ((k : Int) % p + 1) + p * ((k : Int) / p) := by omega
  rw [e, Int.add_mul_emod_self_left]
  split
  · have : (k : Int) % p + 1 = p := by omega
    rw [this]; simp
  · rw [Int.emod_eq_of_lt (a := (k : Int) % p + 1) (b := p) (by omega) (by omega)]
theorem sq_b (p : Int) (k : Nat) (h0 : 1 ≤ p) : fl ((k : Int) / p % 2) (du ((k : Int) % p) p) = ((k + 1 : Nat) : Int) / p % 2 := by
  have e1 := Int.emod_add_mul_ediv (k : Int) p
  have e2 := Int.emod_lt_of_pos (k : Int) (show 0 < p by omega)
  have e3 := Int.emod_nonneg (k : Int) (show p ≠ 0 by omega)
  have e : ((k + 1 : Nat) : Int) = ((k : Int) % p + 1) + p * ((k : Int) / p) := by omega
  rw [e, Int.add_mul_ediv_left _ _ (by omega)]
  unfold fl du
  by_cases h : p ≤ (k : Int) % p + 1
  · have h2 : (k : Int) % p + 1 = p := by omega
    rw [h2, Int.ediv_self (by omega)]
    simp
    omega
  · rw [Int.ediv_eq_zero_of_lt (a := (k : Int) % p + 1) (b := p) (by omega) (by omega)]
    simp [h]
theorem tout_0 (b n r7 m1 m2 s es : Int) : tout b n r7 m1 m2 0 s es = 0 := by
  unfold tout vol
  split <;> rfl
theorem tout_15 (b n r7 m1 m2 s es : Int) (h1 : r7 / m1 % 2 = 0) (h2 : r7 / m2 % 2 = 1) : tout b n r7 m1 m2 15 s es = if b = 1 then 8192 else 0 := by
  unfold tout vol onB
  rw [h1, h2]
  simp
  rfl
/-- the chip of a tone alone, as it is written -/
def sq0 (p : Int) : Nat → T
  | 0 => T.new
  | 1 => T.new.put 0 (p % 256)
  | 2 => (T.new.put 0 (p % 256)).put 1 (p / 256)
  | 3 => ((T.new.put 0 (p % 256)).put 1 (p / 256)).put 7 62
  | _ => (((T.new.put 0 (p % 256)).put 1 (p / 256)).put 7 62).put 8 15
theorem sq0_ok (p : Int) (h0 : 1 ≤ p) (h1 : p ≤ 400) : ∀ k, (sq0 p k).Ok
  | 0 => new_ok
  | 1 => put_ok new_ok (by omega) (by omega)
  | 2 => put_ok (put_ok new_ok (by omega) (by omega)) (by omega) (by omega)
  | 3 => put_ok (put_ok (put_ok new_ok (by omega) (by omega)) (by omega) (by omega)) (by omega) (by omega)
  | _ + 4 => put_ok (put_ok (put_ok (put_ok new_ok (by omega) (by omega)) (by omega) (by omega)) (by omega) (by omega)) (by omega) (by omega)
/-- what such a chip keeps -/
structure Sq0 (p : Int) (k : Nat) (t : T) : Prop where
  lo : t.r0 = p % 256
  hi : t.r1 = p / 256
  r7 : t.r7 = 62
  ra : t.r8 = 15
  rb : t.r9 = 0
  rc : t.r10 = 0
  c : t.c0 = (k : Int) % p
  b : t.b0 = (k : Int) / p % 2
theorem sq0_at (p : Int) (h0 : 1 ≤ p) (h1 : p ≤ 400) : ∀ k, Sq0 p k ((sq0 p 4).run k)
  | 0 => ⟨rfl, rfl, rfl, rfl, rfl, rfl, by show (0 : Int) = _; simp, by show (0 : Int) = _; simp⟩
  | k + 1 => by
    obtain ⟨a, b, c, d, e, f, g, h⟩ := sq0_at p h0 h1 k
    show Sq0 p (k + 1) ((sq0 p 4).run k).step
    generalize (sq0 p 4).run k = t at a b c d e f g h
    have hp : per t.r0 t.r1 = p := by rw [a, b]; unfold per; split <;> omega
    refine ⟨a, b, c, d, e, f, ?_, ?_⟩
    · show nx t.c0 (per t.r0 t.r1) = _
      rw [hp, g]; unfold nx
      exact sq_c p k h0
    · show fl t.b0 (du t.c0 (per t.r0 t.r1)) = _
      rw [hp, g, h]
      exact sq_b p k h0
theorem sq0_out (p : Int) (h0 : 1 ≤ p) (h1 : p ≤ 400) (k : Nat) : ((sq0 p 4).run k).out 3 = if (k : Int) / p % 2 = 1 then 8192 else 0 := by
  obtain ⟨a, b, c, d, e, f, g, h⟩ := sq0_at p h0 h1 k
  generalize (sq0 p 4).run k = t at a b c d e f g h
  show tout t.b0 t.n t.r7 1 8 t.r8 (t.r13 % 16) t.es + tout t.b1 t.n t.r7 2 16 t.r9 (t.r13 % 16) t.es + tout t.b2 t.n t.r7 4 32 t.r10 (t.r13 % 16) t.es = _
  rw [c, d, e, f, h, tout_0, tout_0, tout_15 _ _ _ _ _ _ _ (by decide) (by decide)]
  split <;> simp
/-- the chip of a tone alone, as it is written -/
def sq1 (p : Int) : Nat → T
  | 0 => T.new
  | 1 => T.new.put 2 (p % 256)
  | 2 => (T.new.put 2 (p % 256)).put 3 (p / 256)
  | 3 => ((T.new.put 2 (p % 256)).put 3 (p / 256)).put 7 61
  | _ => (((T.new.put 2 (p % 256)).put 3 (p / 256)).put 7 61).put 9 15
theorem sq1_ok (p : Int) (h0 : 1 ≤ p) (h1 : p ≤ 400) : ∀ k, (sq1 p k).Ok
  | 0 => new_ok
  | 1 => put_ok new_ok (by omega) (by omega)
  | 2 => put_ok (put_ok new_ok (by omega) (by omega)) (by omega) (by omega)
  | 3 => put_ok (put_ok (put_ok new_ok (by omega) (by omega)) (by omega) (by omega)) (by omega) (by omega)
  | _ + 4 => put_ok (put_ok (put_ok (put_ok new_ok (by omega) (by omega)) (by omega) (by omega)) (by omega) (by omega)) (by omega) (by omega)
/-- what such a chip keeps -/
structure Sq1 (p : Int) (k : Nat) (t : T) : Prop where
  lo : t.r2 = p % 256
  hi : t.r3 = p / 256
  r7 : t.r7 = 61
  ra : t.r9 = 15
  rb : t.r10 = 0
  rc : t.r8 = 0
  c : t.c1 = (k : Int) % p
  b : t.b1 = (k : Int) / p % 2
theorem sq1_at (p : Int) (h0 : 1 ≤ p) (h1 : p ≤ 400) : ∀ k, Sq1 p k ((sq1 p 4).run k)
  | 0 => ⟨rfl, rfl, rfl, rfl, rfl, rfl, by show (0 : Int) = _; simp, by show (0 : Int) = _; simp⟩
  | k + 1 => by
    obtain ⟨a, b, c, d, e, f, g, h⟩ := sq1_at p h0 h1 k
    show Sq1 p (k + 1) ((sq1 p 4).run k).step
    generalize (sq1 p 4).run k = t at a b c d e f g h
    have hp : per t.r2 t.r3 = p := by rw [a, b]; unfold per; split <;> omega
    refine ⟨a, b, c, d, e, f, ?_, ?_⟩
    · show nx t.c1 (per t.r2 t.r3) = _
      rw [hp, g]; unfold nx
      exact sq_c p k h0
    · show fl t.b1 (du t.c1 (per t.r2 t.r3)) = _
      rw [hp, g, h]
      exact sq_b p k h0
theorem sq1_out (p : Int) (h0 : 1 ≤ p) (h1 : p ≤ 400) (k : Nat) : ((sq1 p 4).run k).out 3 = if (k : Int) / p % 2 = 1 then 8192 else 0 := by
  obtain ⟨a, b, c, d, e, f, g, h⟩ := sq1_at p h0 h1 k
  generalize (sq1 p 4).run k = t at a b c d e f g h
  show tout t.b0 t.n t.r7 1 8 t.r8 (t.r13 % 16) t.es + tout t.b1 t.n t.r7 2 16 t.r9 (t.r13 % 16) t.es + tout t.b2 t.n t.r7 4 32 t.r10 (t.r13 % 16) t.es = _
  rw [c, d, e, f, h, tout_0, tout_0, tout_15 _ _ _ _ _ _ _ (by decide) (by decide)]
  split <;> simp
/-- the chip of a tone alone, as it is written -/
def sq2 (p : Int) : Nat → T
  | 0 => T.new
  | 1 => T.new.put 4 (p % 256)
  | 2 => (T.new.put 4 (p % 256)).put 5 (p / 256)
  | 3 => ((T.new.put 4 (p % 256)).put 5 (p / 256)).put 7 59
  | _ => (((T.new.put 4 (p % 256)).put 5 (p / 256)).put 7 59).put 10 15
theorem sq2_ok (p : Int) (h0 : 1 ≤ p) (h1 : p ≤ 400) : ∀ k, (sq2 p k).Ok
  | 0 => new_ok
  | 1 => put_ok new_ok (by omega) (by omega)
  | 2 => put_ok (put_ok new_ok (by omega) (by omega)) (by omega) (by omega)
  | 3 => put_ok (put_ok (put_ok new_ok (by omega) (by omega)) (by omega) (by omega)) (by omega) (by omega)
  | _ + 4 => put_ok (put_ok (put_ok (put_ok new_ok (by omega) (by omega)) (by omega) (by omega)) (by omega) (by omega)) (by omega) (by omega)
/-- what such a chip keeps -/
structure Sq2 (p : Int) (k : Nat) (t : T) : Prop where
  lo : t.r4 = p % 256
  hi : t.r5 = p / 256
  r7 : t.r7 = 59
  ra : t.r10 = 15
  rb : t.r8 = 0
  rc : t.r9 = 0
  c : t.c2 = (k : Int) % p
  b : t.b2 = (k : Int) / p % 2
theorem sq2_at (p : Int) (h0 : 1 ≤ p) (h1 : p ≤ 400) : ∀ k, Sq2 p k ((sq2 p 4).run k)
  | 0 => ⟨rfl, rfl, rfl, rfl, rfl, rfl, by show (0 : Int) = _; simp, by show (0 : Int) = _; simp⟩
  | k + 1 => by
    obtain ⟨a, b, c, d, e, f, g, h⟩ := sq2_at p h0 h1 k
    show Sq2 p (k + 1) ((sq2 p 4).run k).step
    generalize (sq2 p 4).run k = t at a b c d e f g h
    have hp : per t.r4 t.r5 = p := by rw [a, b]; unfold per; split <;> omega
    refine ⟨a, b, c, d, e, f, ?_, ?_⟩
    · show nx t.c2 (per t.r4 t.r5) = _
      rw [hp, g]; unfold nx
      exact sq_c p k h0
    · show fl t.b2 (du t.c2 (per t.r4 t.r5)) = _
      rw [hp, g, h]
      exact sq_b p k h0
theorem sq2_out (p : Int) (h0 : 1 ≤ p) (h1 : p ≤ 400) (k : Nat) : ((sq2 p 4).run k).out 3 = if (k : Int) / p % 2 = 1 then 8192 else 0 := by
  obtain ⟨a, b, c, d, e, f, g, h⟩ := sq2_at p h0 h1 k
  generalize (sq2 p 4).run k = t at a b c d e f g h
  show tout t.b0 t.n t.r7 1 8 t.r8 (t.r13 % 16) t.es + tout t.b1 t.n t.r7 2 16 t.r9 (t.r13 % 16) t.es + tout t.b2 t.n t.r7 4 32 t.r10 (t.r13 % 16) t.es = _
  rw [c, d, e, f, h, tout_0, tout_0, tout_15 _ _ _ _ _ _ _ (by decide) (by decide)]
  split <;> simp
section
variable {P : Program}
theorem wpBuild2 {ops : Array Oper} {rest : List Oper} {o : Oper} {a : Act} {w : World} {Q : Exit → Act → World → Prop} (hg : o.guard = none) (t : TypeId) (i j : Nat) (x y : Operand) (ho : o.op = .build t #[(i, x), (j, y)]) (vx vy : Value) (hx : a.eval x = vx) (hy : a.eval y = vy) (cs : Array Value) (hb : P.built t [(i, vx), (j, vy)] = some cs)
    (h : wpList P ops Q rest (a.put o.dst (.agg cs)) w) : wpList P ops Q (o :: rest) a w := by
  refine wpList_build hg t #[(i, x), (j, y)] ho ?_ ?_
  · simp [hx, hy, hb]
  · simpa [hx, hy, hb] using h
end
theorem nextB {w : World} {o : Obj} {g : Nat} (h : w.heap.size = g) : (w.alloc o).heap[g]? = some o := h ▸ heap_alloc_new w o
theorem built54 (x y : Int) : Try.prog.built 54 [(0, iv x), (1, iv y)] = some #[iv x, iv y, iv 0] := by kernel_rfl
set_option maxHeartbeats 8000000 in
set_option maxRecDepth 100000 in
theorem square0 (p : Nat) (h0 : 1 ≤ p) (h1 : p ≤ 400) (w : World) : Calls Try.prog 10 #[iv p, iv 0] w fun e w' => e = .returned (.bool true) ∧ Below w.heap.size w w' := by
  have i0 : (1 : Int) ≤ (p : Int) := by omega
  have i1 : (p : Int) ≤ 400 := by omega
  have d0 : decide ((p : Int) < 1) = false := decide_eq_false (by omega)
  have d1 : decide (400 < (p : Int)) = false := decide_eq_false (by omega)
  go_enter Try.func10, Try.ntmps10
  go_wp2_with (first
    | (go_at_call 21; (with_reducible refine (new_any _).mono ?_); rintro e w1 ⟨rfl, hb1⟩; have Z1 := Lib.hid (heap_alloc_new w1 (Obj.cells #[iv 0, iv 0, iv 0, iv 0, iv 0, iv 0, iv 0, iv 0, iv 0, iv 0, iv 0, iv 0, iv 0, iv 0, iv 0, iv 0, iv 0, iv 0, iv 0, iv 0, iv 0, iv 0, iv 0, iv 0] 35)))
    | (refine wpList_store_row rfl 35 (.tmp 5) (.tmp 28) rfl (w1.heap.size) T.new.cs rfl rfl 35 _ Z1.out (T.i35 _) (T.sz T.zero _) (T.one _) ?_; have A2 := Lib.hid (setRow_heap _ _ _ T.new.cs _ _ Z1.out); have B2 := below_setRow (hb1.alloc hb1.size (Obj.cells #[iv 0, iv 0, iv 0, iv 0, iv 0, iv 0, iv 0, iv 0, iv 0, iv 0, iv 0, iv 0, iv 0, iv 0, iv 0, iv 0, iv 0, iv 0, iv 0, iv 0, iv 0, iv 0, iv 0, iv 0] 35)) (g := w1.heap.size) hb1.size T.new.cs)
    | (refine wpBuild2 rfl 54 0 1 (.tmp 30) (.tmp 32) rfl (iv 0) (iv ((p : Int) % 256)) rfl rfl _ (built54 _ _) ?_)
    | (refine wpBuild2 rfl 54 0 1 (.tmp 36) (.tmp 38) rfl (iv 1) (iv ((p : Int) / 256)) rfl rfl _ (built54 _ _) ?_)
    | (refine wpBuild2 rfl 54 0 1 (.const (.int .i64 7)) (.tmp 42) rfl (iv 7) (iv 62) rfl rfl _ (built54 _ _) ?_)
    | (refine wpBuild2 rfl 54 0 1 (.tmp 45) (.const (.int .i64 15)) rfl (iv 8) (iv 15) rfl rfl _ (built54 _ _) ?_))
  have S3 := Lib.hid (nextB (w := (w1.alloc (Obj.cells #[iv 0, iv 0, iv 0, iv 0, iv 0, iv 0, iv 0, iv 0, iv 0, iv 0, iv 0, iv 0, iv 0, iv 0, iv 0, iv 0, iv 0, iv 0, iv 0, iv 0, iv 0, iv 0, iv 0, iv 0] 35)).setRow w1.heap.size T.new.cs) (o := Obj.cells #[iv 0, iv ((p : Int) % 256), iv 0, iv 1, iv ((p : Int) / 256), iv 0, iv 7, iv 62, iv 0, iv 8, iv 15, iv 0] 54) (g := w1.heap.size + 1) (by simp))
  have A3 := Lib.hid (bkAlloc A2.out (Obj.cells #[iv 0, iv ((p : Int) % 256), iv 0, iv 1, iv ((p : Int) / 256), iv 0, iv 7, iv 62, iv 0, iv 8, iv 15, iv 0] 54))
  have B3 := B2.alloc B2.size (Obj.cells #[iv 0, iv ((p : Int) % 256), iv 0, iv 1, iv ((p : Int) / 256), iv 0, iv 7, iv 62, iv 0, iv 8, iv 15, iv 0] 54)
  clear A2 B2 Z1
  go_loopw [49] (fun v wr => ∃ k : Nat, k ≤ 4 ∧ v = iv k ∧ wr.heap[w1.heap.size]? = some (.cells (sq0 p k).cs 35 (0, 0)) ∧ wr.heap[w1.heap.size + 1]? = some (.cells #[iv 0, iv ((p : Int) % 256), iv 0, iv 1, iv ((p : Int) / 256), iv 0, iv 7, iv 62, iv 0, iv 8, iv 15, iv 0] 54 (0, 0)) ∧ Below w.heap.size w wr) (fun v _ => 4 - (intOf v).toNat)
  case atStart => exact ⟨0, by omega, rfl, A3.out, S3.out, B3⟩
  case round =>
    obtain ⟨k, hk, rfl, hA, hS, hB⟩ := hrel
    obtain ⟨wr0, hwr⟩ : ∃ wr0, wr0 = wr := ⟨_, rfl⟩
    have HWR := Lib.hid hwr
    clear hwr
    have HA := Lib.hid hA
    have hok := sq0_ok p i0 i1 k
    have HS := Lib.hid hS
    clear A3 S3 B3 hA hS
    rcases (by omega : k = 0 ∨ k = 1 ∨ k = 2 ∨ k = 3 ∨ k = 4) with rfl | rfl | rfl | rfl | rfl
    · have c0 := (bkCell HS.out 0).trans (show _ = some (iv 0) from rfl)
      have c1 := (bkCell HS.out 1).trans (show _ = some (iv ((p : Int) % 256)) from rfl)
      have c2 := (bkCell HS.out 2).trans (show _ = some (iv 0) from rfl)
      go_wp2_with (first
        | (refine wpList_load_row rfl 35 (.tmp 5) rfl (w1.heap.size) rfl 35 _ (0, 0) _ (bkAlloc HA.out _) Try.underlying35 rfl (T.i35 _) ?_)
        | (go_at_call 27; (with_reducible refine (write_fine (sq0 p 0) hok 0 ((p : Int) % 256) (by omega) (by omega) (by omega) (by omega) _).mono ?_); rintro e w4 ⟨rfl, hb4⟩; have A4 := Lib.hid (bkBelow (bkAlloc HA.out _) hb4); have S4 := Lib.hid (bkBelow (bkAlloc HS.out _) hb4); have B4 := bdT (hB.alloc hB.size _) (hB.alloc hB.size _).size hb4; clear HA HS c0 c1 c2)
        | (refine wpList_store_row rfl 35 (.tmp 5) (.tmp 60) rfl (w1.heap.size) (sq0 p 1).cs rfl rfl 35 _ A4.out (T.i35 _) (T.sz _ _) (T.one _) ?_))
      exact ⟨⟨1, by omega, rfl, setRow_heap _ _ _ _ _ _ A4.out, (setRow_other _ _ _ _ (by omega)).trans S4.out, below_setRow B4 (g := w1.heap.size) hb1.size _⟩, by simp [intOf]⟩
    · have c0 := (bkCell HS.out 3).trans (show _ = some (iv 1) from rfl)
      have c1 := (bkCell HS.out 4).trans (show _ = some (iv ((p : Int) / 256)) from rfl)
      have c2 := (bkCell HS.out 5).trans (show _ = some (iv 0) from rfl)
      go_wp2_with (first
        | (refine wpList_load_row rfl 35 (.tmp 5) rfl (w1.heap.size) rfl 35 _ (0, 0) _ (bkAlloc HA.out _) Try.underlying35 rfl (T.i35 _) ?_)
        | (go_at_call 27; (with_reducible refine (write_fine (sq0 p 1) hok 1 ((p : Int) / 256) (by omega) (by omega) (by omega) (by omega) _).mono ?_); rintro e w4 ⟨rfl, hb4⟩; have A4 := Lib.hid (bkBelow (bkAlloc HA.out _) hb4); have S4 := Lib.hid (bkBelow (bkAlloc HS.out _) hb4); have B4 := bdT (hB.alloc hB.size _) (hB.alloc hB.size _).size hb4; clear HA HS c0 c1 c2)
        | (refine wpList_store_row rfl 35 (.tmp 5) (.tmp 60) rfl (w1.heap.size) (sq0 p 2).cs rfl rfl 35 _ A4.out (T.i35 _) (T.sz _ _) (T.one _) ?_))
      exact ⟨⟨2, by omega, rfl, setRow_heap _ _ _ _ _ _ A4.out, (setRow_other _ _ _ _ (by omega)).trans S4.out, below_setRow B4 (g := w1.heap.size) hb1.size _⟩, by simp [intOf]⟩
    · have c0 := (bkCell HS.out 6).trans (show _ = some (iv 7) from rfl)
      have c1 := (bkCell HS.out 7).trans (show _ = some (iv 62) from rfl)
      have c2 := (bkCell HS.out 8).trans (show _ = some (iv 0) from rfl)
      go_wp2_with (first
        | (refine wpList_load_row rfl 35 (.tmp 5) rfl (w1.heap.size) rfl 35 _ (0, 0) _ (bkAlloc HA.out _) Try.underlying35 rfl (T.i35 _) ?_)
        | (go_at_call 27; (with_reducible refine (write_fine (sq0 p 2) hok 7 62 (by omega) (by omega) (by omega) (by omega) _).mono ?_); rintro e w4 ⟨rfl, hb4⟩; have A4 := Lib.hid (bkBelow (bkAlloc HA.out _) hb4); have S4 := Lib.hid (bkBelow (bkAlloc HS.out _) hb4); have B4 := bdT (hB.alloc hB.size _) (hB.alloc hB.size _).size hb4; clear HA HS c0 c1 c2)
        | (refine wpList_store_row rfl 35 (.tmp 5) (.tmp 60) rfl (w1.heap.size) (sq0 p 3).cs rfl rfl 35 _ A4.out (T.i35 _) (T.sz _ _) (T.one _) ?_))
      exact ⟨⟨3, by omega, rfl, setRow_heap _ _ _ _ _ _ A4.out, (setRow_other _ _ _ _ (by omega)).trans S4.out, below_setRow B4 (g := w1.heap.size) hb1.size _⟩, by simp [intOf]⟩
    · have c0 := (bkCell HS.out 9).trans (show _ = some (iv 8) from rfl)
      have c1 := (bkCell HS.out 10).trans (show _ = some (iv 15) from rfl)
      have c2 := (bkCell HS.out 11).trans (show _ = some (iv 0) from rfl)
      go_wp2_with (first
        | (refine wpList_load_row rfl 35 (.tmp 5) rfl (w1.heap.size) rfl 35 _ (0, 0) _ (bkAlloc HA.out _) Try.underlying35 rfl (T.i35 _) ?_)
        | (go_at_call 27; (with_reducible refine (write_fine (sq0 p 3) hok 8 15 (by omega) (by omega) (by omega) (by omega) _).mono ?_); rintro e w4 ⟨rfl, hb4⟩; have A4 := Lib.hid (bkBelow (bkAlloc HA.out _) hb4); have S4 := Lib.hid (bkBelow (bkAlloc HS.out _) hb4); have B4 := bdT (hB.alloc hB.size _) (hB.alloc hB.size _).size hb4; clear HA HS c0 c1 c2)
        | (refine wpList_store_row rfl 35 (.tmp 5) (.tmp 60) rfl (w1.heap.size) (sq0 p 4).cs rfl rfl 35 _ A4.out (T.i35 _) (T.sz _ _) (T.one _) ?_))
      exact ⟨⟨4, by omega, rfl, setRow_heap _ _ _ _ _ _ A4.out, (setRow_other _ _ _ _ (by omega)).trans S4.out, below_setRow B4 (g := w1.heap.size) hb1.size _⟩, by simp [intOf]⟩
    · obtain ⟨N, hN⟩ : ∃ N : Nat, N = 4 * p := ⟨_, rfl⟩
      have hN1 : N ≤ 1600 := by omega
      have HN := Lib.hid hN
      have R0 : ∀ W : World, Calls Try.prog 20 #[.agg (sq0 p 4).cs, iv (4 * (p : Int))] W fun e w' => ∃ g, e = .returned (.tuple #[.slice (some ⟨g, 0, none⟩) N N, .agg ((sq0 p 4).run N).cs, iv 0]) ∧ w'.ownsRow W.heap.size 3 1 (.slice (some ⟨g, 0, none⟩) N N) N (((sq0 p 4).vals N).map iv) ∧ Below W.heap.size W w' := fun W => by
        have := run_fine (sq0 p 4) hok N (by omega) W
        rw [show (N : Int) = 4 * (p : Int) by omega] at this
        exact this
      have R0H := Lib.hid R0
      have e1 : ((N : Int) != 4 * (p : Int)) = false := by simp; omega
      clear R0 hN
      go_wp2_with (first
        | (refine wpList_load_row rfl 35 (.tmp 5) rfl (w1.heap.size) rfl 35 _ (0, 0) _ HA.out Try.underlying35 rfl (T.i35 _) ?_)
        | (go_at_call 20; (with_reducible refine (R0H.out _).mono ?_); rintro e w6 ⟨g, rfl, O6, hb6⟩; have B6 := bdT hB hB.size hb6; have Z6 := Lib.hid (heap_alloc_new w6 (Obj.cells #[iv 0, iv 0, iv 0, iv 0, iv 0, iv 0, iv 0, iv 0, iv 0, iv 0, iv 0, iv 0, iv 0, iv 0, iv 0, iv 0, iv 0, iv 0, iv 0, iv 0, iv 0, iv 0, iv 0, iv 0] 35)); clear HA HS)
        | (refine wpList_store_row rfl 35 (.tmp 9) (.tmp 69) rfl (w6.heap.size) ((sq0 p 4).run N).cs rfl rfl 35 _ Z6.out (T.i35 _) (T.sz T.zero _) (T.one _) ?_; have B7 := below_setRow (B6.alloc B6.size (Obj.cells #[iv 0, iv 0, iv 0, iv 0, iv 0, iv 0, iv 0, iv 0, iv 0, iv 0, iv 0, iv 0, iv 0, iv 0, iv 0, iv 0, iv 0, iv 0, iv 0, iv 0, iv 0, iv 0, iv 0, iv 0] 35)) (g := w6.heap.size) B6.size ((sq0 p 4).run N).cs; have O7 := ownFar (ownBelow O6 ((Below.refl w6.heap.size w6).alloc (Nat.le_refl _) (Obj.cells #[iv 0, iv 0, iv 0, iv 0, iv 0, iv 0, iv 0, iv 0, iv 0, iv 0, iv 0, iv 0, iv 0, iv 0, iv 0, iv 0, iv 0, iv 0, iv 0, iv 0, iv 0, iv 0, iv 0, iv 0] 35))) w6.heap.size (by have := ownFarA O6; omega) ((sq0 p 4).run N).cs; clear O6 B6 Z6))
      go_loopw [82] (fun v wr => ∃ j : Nat, j ≤ N ∧ v = iv j ∧ wr.ownsRow wr0.heap.size 3 1 (.slice (some ⟨g, 0, none⟩) N N) N (((sq0 p 4).vals N).map iv) ∧ Below w.heap.size w wr) (fun v _ => N - (intOf v).toNat)
      case atStart => exact ⟨0, by omega, rfl, by rw [HWR.out]; exact O7, B7⟩
      case round =>
        obtain ⟨j, hj, rfl, hO, hB7⟩ := hrel
        clear O7 B7
        by_cases hlt : j < N
        · have hc := cellsGet hO j hlt
          rw [vals_get _ _ _ hlt, sq0_out p i0 i1 (j + 1), show ((j + 1 : Nat) : Int) = (j : Int) + 1 by omega] at hc
          have j0 : (0 : Int) ≤ (j : Int) := by omega
          have j1 : (j : Int) < (N : Int) := by omega
          have hq0 : 0 ≤ ((j : Int) + 1) / (p : Int) := Int.ediv_nonneg (by omega) (by omega)
          have hqt : (((j : Int) + 1) / (p : Int)).tmod 2 = ((j : Int) + 1) / (p : Int) % 2 := Int.tmod_eq_emod_of_nonneg hq0
          rcases (by omega : ((j : Int) + 1) / (p : Int) % 2 = 1 ∨ ((j : Int) + 1) / (p : Int) % 2 = 0) with he | he
          · rw [he, if_pos rfl] at hc
            rw [he] at hqt
            go_wp2
            exact ⟨⟨j + 1, by omega, by go_num, hO, hB7⟩, by simp [intOf]; omega⟩
          · rw [he, if_neg (by decide)] at hc
            rw [he] at hqt
            go_wp2
            exact ⟨⟨j + 1, by omega, by go_num, hO, hB7⟩, by simp [intOf]; omega⟩
        · obtain rfl : j = N := by omega
          go_wp2
          go_ret
          exact ⟨rfl, hB7⟩
set_option maxHeartbeats 8000000 in
set_option maxRecDepth 100000 in
theorem square1 (p : Nat) (h0 : 1 ≤ p) (h1 : p ≤ 400) (w : World) : Calls Try.prog 10 #[iv p, iv 1] w fun e w' => e = .returned (.bool true) ∧ Below w.heap.size w w' := by
  have i0 : (1 : Int) ≤ (p : Int) := by omega
  have i1 : (p : Int) ≤ 400 := by omega
  have d0 : decide ((p : Int) < 1) = false := decide_eq_false (by omega)
  have d1 : decide (400 < (p : Int)) = false := decide_eq_false (by omega)
  go_enter Try.func10, Try.ntmps10
  go_wp2_with (first
    | (go_at_call 21; (with_reducible refine (new_any _).mono ?_); rintro e w1 ⟨rfl, hb1⟩; have Z1 := Lib.hid (heap_alloc_new w1 (Obj.cells #[iv 0, iv 0, iv 0, iv 0, iv 0, iv 0, iv 0, iv 0, iv 0, iv 0, iv 0, iv 0, iv 0, iv 0, iv 0, iv 0, iv 0, iv 0, iv 0, iv 0, iv 0, iv 0, iv 0, iv 0] 35)))
    | (refine wpList_store_row rfl 35 (.tmp 5) (.tmp 28) rfl (w1.heap.size) T.new.cs rfl rfl 35 _ Z1.out (T.i35 _) (T.sz T.zero _) (T.one _) ?_; have A2 := Lib.hid (setRow_heap _ _ _ T.new.cs _ _ Z1.out); have B2 := below_setRow (hb1.alloc hb1.size (Obj.cells #[iv 0, iv 0, iv 0, iv 0, iv 0, iv 0, iv 0, iv 0, iv 0, iv 0, iv 0, iv 0, iv 0, iv 0, iv 0, iv 0, iv 0, iv 0, iv 0, iv 0, iv 0, iv 0, iv 0, iv 0] 35)) (g := w1.heap.size) hb1.size T.new.cs)
    | (refine wpBuild2 rfl 54 0 1 (.tmp 30) (.tmp 32) rfl (iv 2) (iv ((p : Int) % 256)) rfl rfl _ (built54 _ _) ?_)
    | (refine wpBuild2 rfl 54 0 1 (.tmp 36) (.tmp 38) rfl (iv 3) (iv ((p : Int) / 256)) rfl rfl _ (built54 _ _) ?_)
    | (refine wpBuild2 rfl 54 0 1 (.const (.int .i64 7)) (.tmp 42) rfl (iv 7) (iv 61) rfl rfl _ (built54 _ _) ?_)
    | (refine wpBuild2 rfl 54 0 1 (.tmp 45) (.const (.int .i64 15)) rfl (iv 9) (iv 15) rfl rfl _ (built54 _ _) ?_))
  have S3 := Lib.hid (nextB (w := (w1.alloc (Obj.cells #[iv 0, iv 0, iv 0, iv 0, iv 0, iv 0, iv 0, iv 0, iv 0, iv 0, iv 0, iv 0, iv 0, iv 0, iv 0, iv 0, iv 0, iv 0, iv 0, iv 0, iv 0, iv 0, iv 0, iv 0] 35)).setRow w1.heap.size T.new.cs) (o := Obj.cells #[iv 2, iv ((p : Int) % 256), iv 0, iv 3, iv ((p : Int) / 256), iv 0, iv 7, iv 61, iv 0, iv 9, iv 15, iv 0] 54) (g := w1.heap.size + 1) (by simp))
  have A3 := Lib.hid (bkAlloc A2.out (Obj.cells #[iv 2, iv ((p : Int) % 256), iv 0, iv 3, iv ((p : Int) / 256), iv 0, iv 7, iv 61, iv 0, iv 9, iv 15, iv 0] 54))
  have B3 := B2.alloc B2.size (Obj.cells #[iv 2, iv ((p : Int) % 256), iv 0, iv 3, iv ((p : Int) / 256), iv 0, iv 7, iv 61, iv 0, iv 9, iv 15, iv 0] 54)
  clear A2 B2 Z1
  go_loopw [49] (fun v wr => ∃ k : Nat, k ≤ 4 ∧ v = iv k ∧ wr.heap[w1.heap.size]? = some (.cells (sq1 p k).cs 35 (0, 0)) ∧ wr.heap[w1.heap.size + 1]? = some (.cells #[iv 2, iv ((p : Int) % 256), iv 0, iv 3, iv ((p : Int) / 256), iv 0, iv 7, iv 61, iv 0, iv 9, iv 15, iv 0] 54 (0, 0)) ∧ Below w.heap.size w wr) (fun v _ => 4 - (intOf v).toNat)
  case atStart => exact ⟨0, by omega, rfl, A3.out, S3.out, B3⟩
  case round =>
    obtain ⟨k, hk, rfl, hA, hS, hB⟩ := hrel
    obtain ⟨wr0, hwr⟩ : ∃ wr0, wr0 = wr := ⟨_, rfl⟩
    have HWR := Lib.hid hwr
    clear hwr
    have HA := Lib.hid hA
    have hok := sq1_ok p i0 i1 k
    have HS := Lib.hid hS
    clear A3 S3 B3 hA hS
    rcases (by omega : k = 0 ∨ k = 1 ∨ k = 2 ∨ k = 3 ∨ k = 4) with rfl | rfl | rfl | rfl | rfl
    · have c0 := (bkCell HS.out 0).trans (show _ = some (iv 2) from rfl)
      have c1 := (bkCell HS.out 1).trans (show _ = some (iv ((p : Int) % 256)) from rfl)
      have c2 := (bkCell HS.out 2).trans (show _ = some (iv 0) from rfl)
      go_wp2_with (first
        | (refine wpList_load_row rfl 35 (.tmp 5) rfl (w1.heap.size) rfl 35 _ (0, 0) _ (bkAlloc HA.out _) Try.underlying35 rfl (T.i35 _) ?_)
        | (go_at_call 27; (with_reducible refine (write_fine (sq1 p 0) hok 2 ((p : Int) % 256) (by omega) (by omega) (by omega) (by omega) _).mono ?_); rintro e w4 ⟨rfl, hb4⟩; have A4 := Lib.hid (bkBelow (bkAlloc HA.out _) hb4); have S4 := Lib.hid (bkBelow (bkAlloc HS.out _) hb4); have B4 := bdT (hB.alloc hB.size _) (hB.alloc hB.size _).size hb4; clear HA HS c0 c1 c2)
        | (refine wpList_store_row rfl 35 (.tmp 5) (.tmp 60) rfl (w1.heap.size) (sq1 p 1).cs rfl rfl 35 _ A4.out (T.i35 _) (T.sz _ _) (T.one _) ?_))
      exact ⟨⟨1, by omega, rfl, setRow_heap _ _ _ _ _ _ A4.out, (setRow_other _ _ _ _ (by omega)).trans S4.out, below_setRow B4 (g := w1.heap.size) hb1.size _⟩, by simp [intOf]⟩
    · have c0 := (bkCell HS.out 3).trans (show _ = some (iv 3) from rfl)
      have c1 := (bkCell HS.out 4).trans (show _ = some (iv ((p : Int) / 256)) from rfl)
      have c2 := (bkCell HS.out 5).trans (show _ = some (iv 0) from rfl)
      go_wp2_with (first
        | (refine wpList_load_row rfl 35 (.tmp 5) rfl (w1.heap.size) rfl 35 _ (0, 0) _ (bkAlloc HA.out _) Try.underlying35 rfl (T.i35 _) ?_)
        | (go_at_call 27; (with_reducible refine (write_fine (sq1 p 1) hok 3 ((p : Int) / 256) (by omega) (by omega) (by omega) (by omega) _).mono ?_); rintro e w4 ⟨rfl, hb4⟩; have A4 := Lib.hid (bkBelow (bkAlloc HA.out _) hb4); have S4 := Lib.hid (bkBelow (bkAlloc HS.out _) hb4); have B4 := bdT (hB.alloc hB.size _) (hB.alloc hB.size _).size hb4; clear HA HS c0 c1 c2)
        | (refine wpList_store_row rfl 35 (.tmp 5) (.tmp 60) rfl (w1.heap.size) (sq1 p 2).cs rfl rfl 35 _ A4.out (T.i35 _) (T.sz _ _) (T.one _) ?_))
      exact ⟨⟨2, by omega, rfl, setRow_heap _ _ _ _ _ _ A4.out, (setRow_other _ _ _ _ (by omega)).trans S4.out, below_setRow B4 (g := w1.heap.size) hb1.size _⟩, by simp [intOf]⟩
    · have c0 := (bkCell HS.out 6).trans (show _ = some (iv 7) from rfl)
      have c1 := (bkCell HS.out 7).trans (show _ = some (iv 61) from rfl)
      have c2 := (bkCell HS.out 8).trans (show _ = some (iv 0) from rfl)
      go_wp2_with (first
        | (refine wpList_load_row rfl 35 (.tmp 5) rfl (w1.heap.size) rfl 35 _ (0, 0) _ (bkAlloc HA.out _) Try.underlying35 rfl (T.i35 _) ?_)
        | (go_at_call 27; (with_reducible refine (write_fine (sq1 p 2) hok 7 61 (by omega) (by omega) (by omega) (by omega) _).mono ?_); rintro e w4 ⟨rfl, hb4⟩; have A4 := Lib.hid (bkBelow (bkAlloc HA.out _) hb4); have S4 := Lib.hid (bkBelow (bkAlloc HS.out _) hb4); have B4 := bdT (hB.alloc hB.size _) (hB.alloc hB.size _).size hb4; clear HA HS c0 c1 c2)
        | (refine wpList_store_row rfl 35 (.tmp 5) (.tmp 60) rfl (w1.heap.size) (sq1 p 3).cs rfl rfl 35 _ A4.out (T.i35 _) (T.sz _ _) (T.one _) ?_))
      exact ⟨⟨3, by omega, rfl, setRow_heap _ _ _ _ _ _ A4.out, (setRow_other _ _ _ _ (by omega)).trans S4.out, below_setRow B4 (g := w1.heap.size) hb1.size _⟩, by simp [intOf]⟩
    · have c0 := (bkCell HS.out 9).trans (show _ = some (iv 9) from rfl)
      have c1 := (bkCell HS.out 10).trans (show _ = some (iv 15) from rfl)
      have c2 := (bkCell HS.out 11).trans (show _ = some (iv 0) from rfl)
      go_wp2_with (first
        | (refine wpList_load_row rfl 35 (.tmp 5) rfl (w1.heap.size) rfl 35 _ (0, 0) _ (bkAlloc HA.out _) Try.underlying35 rfl (T.i35 _) ?_)
        | (go_at_call 27; (with_reducible refine (write_fine (sq1 p 3) hok 9 15 (by omega) (by omega) (by omega) (by omega) _).mono ?_); rintro e w4 ⟨rfl, hb4⟩; have A4 := Lib.hid (bkBelow (bkAlloc HA.out _) hb4); have S4 := Lib.hid (bkBelow (bkAlloc HS.out _) hb4); have B4 := bdT (hB.alloc hB.size _) (hB.alloc hB.size _).size hb4; clear HA HS c0 c1 c2)
        | (refine wpList_store_row rfl 35 (.tmp 5) (.tmp 60) rfl (w1.heap.size) (sq1 p 4).cs rfl rfl 35 _ A4.out (T.i35 _) (T.sz _ _) (T.one _) ?_))
      exact ⟨⟨4, by omega, rfl, setRow_heap _ _ _ _ _ _ A4.out, (setRow_other _ _ _ _ (by omega)).trans S4.out, below_setRow B4 (g := w1.heap.size) hb1.size _⟩, by simp [intOf]⟩
    · obtain ⟨N, hN⟩ : ∃ N : Nat, N = 4 * p := ⟨_, rfl⟩
      have hN1 : N ≤ 1600 := by omega
      have HN := Lib.hid hN
      have R0 : ∀ W : World, Calls Try.prog 20 #[.agg (sq1 p 4).cs, iv (4 * (p : Int))] W fun e w' => ∃ g, e = .returned (.tuple #[.slice (some ⟨g, 0, none⟩) N N, .agg ((sq1 p 4).run N).cs, iv 0]) ∧ w'.ownsRow W.heap.size 3 1 (.slice (some ⟨g, 0, none⟩) N N) N (((sq1 p 4).vals N).map iv) ∧ Below W.heap.size W w' := fun W => by
        have := run_fine (sq1 p 4) hok N (by omega) W
        rw [show (N : Int) = 4 * (p : Int) by omega] at this
        exact this
      have R0H := Lib.hid R0
      have e1 : ((N : Int) != 4 * (p : Int)) = false := by simp; omega
      clear R0 hN
      go_wp2_with (first
        | (refine wpList_load_row rfl 35 (.tmp 5) rfl (w1.heap.size) rfl 35 _ (0, 0) _ HA.out Try.underlying35 rfl (T.i35 _) ?_)
        | (go_at_call 20; (with_reducible refine (R0H.out _).mono ?_); rintro e w6 ⟨g, rfl, O6, hb6⟩; have B6 := bdT hB hB.size hb6; have Z6 := Lib.hid (heap_alloc_new w6 (Obj.cells #[iv 0, iv 0, iv 0, iv 0, iv 0, iv 0, iv 0, iv 0, iv 0, iv 0, iv 0, iv 0, iv 0, iv 0, iv 0, iv 0, iv 0, iv 0, iv 0, iv 0, iv 0, iv 0, iv 0, iv 0] 35)); clear HA HS)
        | (refine wpList_store_row rfl 35 (.tmp 9) (.tmp 69) rfl (w6.heap.size) ((sq1 p 4).run N).cs rfl rfl 35 _ Z6.out (T.i35 _) (T.sz T.zero _) (T.one _) ?_; have B7 := below_setRow (B6.alloc B6.size (Obj.cells #[iv 0, iv 0, iv 0, iv 0, iv 0, iv 0, iv 0, iv 0, iv 0, iv 0, iv 0, iv 0, iv 0, iv 0, iv 0, iv 0, iv 0, iv 0, iv 0, iv 0, iv 0, iv 0, iv 0, iv 0] 35)) (g := w6.heap.size) B6.size ((sq1 p 4).run N).cs; have O7 := ownFar (ownBelow O6 ((Below.refl w6.heap.size w6).alloc (Nat.le_refl _) (Obj.cells #[iv 0, iv 0, iv 0, iv 0, iv 0, iv 0, iv 0, iv 0, iv 0, iv 0, iv 0, iv 0, iv 0, iv 0, iv 0, iv 0, iv 0, iv 0, iv 0, iv 0, iv 0, iv 0, iv 0, iv 0] 35))) w6.heap.size (by have := ownFarA O6; omega) ((sq1 p 4).run N).cs; clear O6 B6 Z6))
      go_loopw [82] (fun v wr => ∃ j : Nat, j ≤ N ∧ v = iv j ∧ wr.ownsRow wr0.heap.size 3 1 (.slice (some ⟨g, 0, none⟩) N N) N (((sq1 p 4).vals N).map iv) ∧ Below w.heap.size w wr) (fun v _ => N - (intOf v).toNat)
      case atStart => exact ⟨0, by omega, rfl, by rw [HWR.out]; exact O7, B7⟩
      case round =>
        obtain ⟨j, hj, rfl, hO, hB7⟩ := hrel
        clear O7 B7
        by_cases hlt : j < N
        · have hc := cellsGet hO j hlt
          rw [vals_get _ _ _ hlt, sq1_out p i0 i1 (j + 1), show ((j + 1 : Nat) : Int) = (j : Int) + 1 by omega] at hc
          have j0 : (0 : Int) ≤ (j : Int) := by omega
          have j1 : (j : Int) < (N : Int) := by omega
          have hq0 : 0 ≤ ((j : Int) + 1) / (p : Int) := Int.ediv_nonneg (by omega) (by omega)
          have hqt : (((j : Int) + 1) / (p : Int)).tmod 2 = ((j : Int) + 1) / (p : Int) % 2 := Int.tmod_eq_emod_of_nonneg hq0
          rcases (by omega : ((j : Int) + 1) / (p : Int) % 2 = 1 ∨ ((j : Int) + 1) / (p : Int) % 2 = 0) with he | he
          · rw [he, if_pos rfl] at hc
            rw [he] at hqt
            go_wp2
            exact ⟨⟨j + 1, by omega, by go_num, hO, hB7⟩, by simp [intOf]; omega⟩
          · rw [he, if_neg (by decide)] at hc
            rw [he] at hqt
            go_wp2
            exact ⟨⟨j + 1, by omega, by go_num, hO, hB7⟩, by simp [intOf]; omega⟩
        · obtain rfl : j = N := by omega
          go_wp2
          go_ret
          exact ⟨rfl, hB7⟩
set_option maxHeartbeats 8000000 in
set_option maxRecDepth 100000 in
theorem square2 (p : Nat) (h0 : 1 ≤ p) (h1 : p ≤ 400) (w : World) : Calls Try.prog 10 #[iv p, iv 2] w fun e w' => e = .returned (.bool true) ∧ Below w.heap.size w w' := by
  have i0 : (1 : Int) ≤ (p : Int) := by omega
  have i1 : (p : Int) ≤ 400 := by omega
  have d0 : decide ((p : Int) < 1) = false := decide_eq_false (by omega)
  have d1 : decide (400 < (p : Int)) = false := decide_eq_false (by omega)
  go_enter Try.func10, Try.ntmps10
  go_wp2_with (first
    | (go_at_call 21; (with_reducible refine (new_any _).mono ?_); rintro e w1 ⟨rfl, hb1⟩; have Z1 := Lib.hid (heap_alloc_new w1 (Obj.cells #[iv 0, iv 0, iv 0, iv 0, iv 0, iv 0, iv 0, iv 0, iv 0, iv 0, iv 0, iv 0, iv 0, iv 0, iv 0, iv 0, iv 0, iv 0, iv 0, iv 0, iv 0, iv 0, iv 0, iv 0] 35)))
    | (refine wpList_store_row rfl 35 (.tmp 5) (.tmp 28) rfl (w1.heap.size) T.new.cs rfl rfl 35 _ Z1.out (T.i35 _) (T.sz T.zero _) (T.one _) ?_; have A2 := Lib.hid (setRow_heap _ _ _ T.new.cs _ _ Z1.out); have B2 := below_setRow (hb1.alloc hb1.size (Obj.cells #[iv 0, iv 0, iv 0, iv 0, iv 0, iv 0, iv 0, iv 0, iv 0, iv 0, iv 0, iv 0, iv 0, iv 0, iv 0, iv 0, iv 0, iv 0, iv 0, iv 0, iv 0, iv 0, iv 0, iv 0] 35)) (g := w1.heap.size) hb1.size T.new.cs)
    | (refine wpBuild2 rfl 54 0 1 (.tmp 30) (.tmp 32) rfl (iv 4) (iv ((p : Int) % 256)) rfl rfl _ (built54 _ _) ?_)
    | (refine wpBuild2 rfl 54 0 1 (.tmp 36) (.tmp 38) rfl (iv 5) (iv ((p : Int) / 256)) rfl rfl _ (built54 _ _) ?_)
    | (refine wpBuild2 rfl 54 0 1 (.const (.int .i64 7)) (.tmp 42) rfl (iv 7) (iv 59) rfl rfl _ (built54 _ _) ?_)
    | (refine wpBuild2 rfl 54 0 1 (.tmp 45) (.const (.int .i64 15)) rfl (iv 10) (iv 15) rfl rfl _ (built54 _ _) ?_))
  have S3 := Lib.hid (nextB (w := (w1.alloc (Obj.cells #[iv 0, iv 0, iv 0, iv 0, iv 0, iv 0, iv 0, iv 0, iv 0, iv 0, iv 0, iv 0, iv 0, iv 0, iv 0, iv 0, iv 0, iv 0, iv 0, iv 0, iv 0, iv 0, iv 0, iv 0] 35)).setRow w1.heap.size T.new.cs) (o := Obj.cells #[iv 4, iv ((p : Int) % 256), iv 0, iv 5, iv ((p : Int) / 256), iv 0, iv 7, iv 59, iv 0, iv 10, iv 15, iv 0] 54) (g := w1.heap.size + 1) (by simp))
  have A3 := Lib.hid (bkAlloc A2.out (Obj.cells #[iv 4, iv ((p : Int) % 256), iv 0, iv 5, iv ((p : Int) / 256), iv 0, iv 7, iv 59, iv 0, iv 10, iv 15, iv 0] 54))
  have B3 := B2.alloc B2.size (Obj.cells #[iv 4, iv ((p : Int) % 256), iv 0, iv 5, iv ((p : Int) / 256), iv 0, iv 7, iv 59, iv 0, iv 10, iv 15, iv 0] 54)
  clear A2 B2 Z1
  go_loopw [49] (fun v wr => ∃ k : Nat, k ≤ 4 ∧ v = iv k ∧ wr.heap[w1.heap.size]? = some (.cells (sq2 p k).cs 35 (0, 0)) ∧ wr.heap[w1.heap.size + 1]? = some (.cells #[iv 4, iv ((p : Int) % 256), iv 0, iv 5, iv ((p : Int) / 256), iv 0, iv 7, iv 59, iv 0, iv 10, iv 15, iv 0] 54 (0, 0)) ∧ Below w.heap.size w wr) (fun v _ => 4 - (intOf v).toNat)
  case atStart => exact ⟨0, by omega, rfl, A3.out, S3.out, B3⟩
  case round =>
    obtain ⟨k, hk, rfl, hA, hS, hB⟩ := hrel
    obtain ⟨wr0, hwr⟩ : ∃ wr0, wr0 = wr := ⟨_, rfl⟩
    have HWR := Lib.hid hwr
    clear hwr
    have HA := Lib.hid hA
    have hok := sq2_ok p i0 i1 k
    have HS := Lib.hid hS
    clear A3 S3 B3 hA hS
    rcases (by omega : k = 0 ∨ k = 1 ∨ k = 2 ∨ k = 3 ∨ k = 4) with rfl | rfl | rfl | rfl | rfl
    · have c0 := (bkCell HS.out 0).trans (show _ = some (iv 4) from rfl)
      have c1 := (bkCell HS.out 1).trans (show _ = some (iv ((p : Int) % 256)) from rfl)
      have c2 := (bkCell HS.out 2).trans (show _ = some (iv 0) from rfl)
      go_wp2_with (first
        | (refine wpList_load_row rfl 35 (.tmp 5) rfl (w1.heap.size) rfl 35 _ (0, 0) _ (bkAlloc HA.out _) Try.underlying35 rfl (T.i35 _) ?_)
        | (go_at_call 27; (with_reducible refine (write_fine (sq2 p 0) hok 4 ((p : Int) % 256) (by omega) (by omega) (by omega) (by omega) _).mono ?_); rintro e w4 ⟨rfl, hb4⟩; have A4 := Lib.hid (bkBelow (bkAlloc HA.out _) hb4); have S4 := Lib.hid (bkBelow (bkAlloc HS.out _) hb4); have B4 := bdT (hB.alloc hB.size _) (hB.alloc hB.size _).size hb4; clear HA HS c0 c1 c2)
        | (refine wpList_store_row rfl 35 (.tmp 5) (.tmp 60) rfl (w1.heap.size) (sq2 p 1).cs rfl rfl 35 _ A4.out (T.i35 _) (T.sz _ _) (T.one _) ?_))
      exact ⟨⟨1, by omega, rfl, setRow_heap _ _ _ _ _ _ A4.out, (setRow_other _ _ _ _ (by omega)).trans S4.out, below_setRow B4 (g := w1.heap.size) hb1.size _⟩, by simp [intOf]⟩
    · have c0 := (bkCell HS.out 3).trans (show _ = some (iv 5) from rfl)
      have c1 := (bkCell HS.out 4).trans (show _ = some (iv ((p : Int) / 256)) from rfl)
      have c2 := (bkCell HS.out 5).trans (show _ = some (iv 0) from rfl)
      go_wp2_with (first
        | (refine wpList_load_row rfl 35 (.tmp 5) rfl (w1.heap.size) rfl 35 _ (0, 0) _ (bkAlloc HA.out _) Try.underlying35 rfl (T.i35 _) ?_)
        | (go_at_call 27; (with_reducible refine (write_fine (sq2 p 1) hok 5 ((p : Int) / 256) (by omega) (by omega) (by omega) (by omega) _).mono ?_); rintro e w4 ⟨rfl, hb4⟩; have A4 := Lib.hid (bkBelow (bkAlloc HA.out _) hb4); have S4 := Lib.hid (bkBelow (bkAlloc HS.out _) hb4); have B4 := bdT (hB.alloc hB.size _) (hB.alloc hB.size _).size hb4; clear HA HS c0 c1 c2)
        | (refine wpList_store_row rfl 35 (.tmp 5) (.tmp 60) rfl (w1.heap.size) (sq2 p 2).cs rfl rfl 35 _ A4.out (T.i35 _) (T.sz _ _) (T.one _) ?_))
      exact ⟨⟨2, by omega, rfl, setRow_heap _ _ _ _ _ _ A4.out, (setRow_other _ _ _ _ (by omega)).trans S4.out, below_setRow B4 (g := w1.heap.size) hb1.size _⟩, by simp [intOf]⟩
    · have c0 := (bkCell HS.out 6).trans (show _ = some (iv 7) from rfl)
      have c1 := (bkCell HS.out 7).trans (show _ = some (iv 59) from rfl)
      have c2 := (bkCell HS.out 8).trans (show _ = some (iv 0) from rfl)
      go_wp2_with (first
        | (refine wpList_load_row rfl 35 (.tmp 5) rfl (w1.heap.size) rfl 35 _ (0, 0) _ (bkAlloc HA.out _) Try.underlying35 rfl (T.i35 _) ?_)
        | (go_at_call 27; (with_reducible refine (write_fine (sq2 p 2) hok 7 59 (by omega) (by omega) (by omega) (by omega) _).mono ?_); rintro e w4 ⟨rfl, hb4⟩; have A4 := Lib.hid (bkBelow (bkAlloc HA.out _) hb4); have S4 := Lib.hid (bkBelow (bkAlloc HS.out _) hb4); have B4 := bdT (hB.alloc hB.size _) (hB.alloc hB.size _).size hb4; clear HA HS c0 c1 c2)
        | (refine wpList_store_row rfl 35 (.tmp 5) (.tmp 60) rfl (w1.heap.size) (sq2 p 3).cs rfl rfl 35 _ A4.out (T.i35 _) (T.sz _ _) (T.one _) ?_))
      exact ⟨⟨3, by omega, rfl, setRow_heap _ _ _ _ _ _ A4.out, (setRow_other _ _ _ _ (by omega)).trans S4.out, below_setRow B4 (g := w1.heap.size) hb1.size _⟩, by simp [intOf]⟩
    · have c0 := (bkCell HS.out 9).trans (show _ = some (iv 10) from rfl)
      have c1 := (bkCell HS.out 10).trans (show _ = some (iv 15) from rfl)
      have c2 := (bkCell HS.out 11).trans (show _ = some (iv 0) from rfl)
      go_wp2_with (first
        | (refine wpList_load_row rfl 35 (.tmp 5) rfl (w1.heap.size) rfl 35 _ (0, 0) _ (bkAlloc HA.out _) Try.underlying35 rfl (T.i35 _) ?_)
        | (go_at_call 27; (with_reducible refine (write_fine (sq2 p 3) hok 10 15 (by omega) (by omega) (by omega) (by omega) _).mono ?_); rintro e w4 ⟨rfl, hb4⟩; have A4 := Lib.hid (bkBelow (bkAlloc HA.out _) hb4); have S4 := Lib.hid (bkBelow (bkAlloc HS.out _) hb4); have B4 := bdT (hB.alloc hB.size _) (hB.alloc hB.size _).size hb4; clear HA HS c0 c1 c2)
        | (refine wpList_store_row rfl 35 (.tmp 5) (.tmp 60) rfl (w1.heap.size) (sq2 p 4).cs rfl rfl 35 _ A4.out (T.i35 _) (T.sz _ _) (T.one _) ?_))
      exact ⟨⟨4, by omega, rfl, setRow_heap _ _ _ _ _ _ A4.out, (setRow_other _ _ _ _ (by omega)).trans S4.out, below_setRow B4 (g := w1.heap.size) hb1.size _⟩, by simp [intOf]⟩
    · obtain ⟨N, hN⟩ : ∃ N : Nat, N = 4 * p := ⟨_, rfl⟩
      have hN1 : N ≤ 1600 := by omega
      have HN := Lib.hid hN
      have R0 : ∀ W : World, Calls Try.prog 20 #[.agg (sq2 p 4).cs, iv (4 * (p : Int))] W fun e w' => ∃ g, e = .returned (.tuple #[.slice (some ⟨g, 0, none⟩) N N, .agg ((sq2 p 4).run N).cs, iv 0]) ∧ w'.ownsRow W.heap.size 3 1 (.slice (some ⟨g, 0, none⟩) N N) N (((sq2 p 4).vals N).map iv) ∧ Below W.heap.size W w' := fun W => by
        have := run_fine (sq2 p 4) hok N (by omega) W
        rw [show (N : Int) = 4 * (p : Int) by omega] at this
        exact this
      have R0H := Lib.hid R0
      have e1 : ((N : Int) != 4 * (p : Int)) = false := by simp; omega
      clear R0 hN
      go_wp2_with (first
        | (refine wpList_load_row rfl 35 (.tmp 5) rfl (w1.heap.size) rfl 35 _ (0, 0) _ HA.out Try.underlying35 rfl (T.i35 _) ?_)
        | (go_at_call 20; (with_reducible refine (R0H.out _).mono ?_); rintro e w6 ⟨g, rfl, O6, hb6⟩; have B6 := bdT hB hB.size hb6; have Z6 := Lib.hid (heap_alloc_new w6 (Obj.cells #[iv 0, iv 0, iv 0, iv 0, iv 0, iv 0, iv 0, iv 0, iv 0, iv 0, iv 0, iv 0, iv 0, iv 0, iv 0, iv 0, iv 0, iv 0, iv 0, iv 0, iv 0, iv 0, iv 0, iv 0] 35)); clear HA HS)
        | (refine wpList_store_row rfl 35 (.tmp 9) (.tmp 69) rfl (w6.heap.size) ((sq2 p 4).run N).cs rfl rfl 35 _ Z6.out (T.i35 _) (T.sz T.zero _) (T.one _) ?_; have B7 := below_setRow (B6.alloc B6.size (Obj.cells #[iv 0, iv 0, iv 0, iv 0, iv 0, iv 0, iv 0, iv 0, iv 0, iv 0, iv 0, iv 0, iv 0, iv 0, iv 0, iv 0, iv 0, iv 0, iv 0, iv 0, iv 0, iv 0, iv 0, iv 0] 35)) (g := w6.heap.size) B6.size ((sq2 p 4).run N).cs; have O7 := ownFar (ownBelow O6 ((Below.refl w6.heap.size w6).alloc (Nat.le_refl _) (Obj.cells #[iv 0, iv 0, iv 0, iv 0, iv 0, iv 0, iv 0, iv 0, iv 0, iv 0, iv 0, iv 0, iv 0, iv 0, iv 0, iv 0, iv 0, iv 0, iv 0, iv 0, iv 0, iv 0, iv 0, iv 0] 35))) w6.heap.size (by have := ownFarA O6; omega) ((sq2 p 4).run N).cs; clear O6 B6 Z6))
      go_loopw [82] (fun v wr => ∃ j : Nat, j ≤ N ∧ v = iv j ∧ wr.ownsRow wr0.heap.size 3 1 (.slice (some ⟨g, 0, none⟩) N N) N (((sq2 p 4).vals N).map iv) ∧ Below w.heap.size w wr) (fun v _ => N - (intOf v).toNat)
      case atStart => exact ⟨0, by omega, rfl, by rw [HWR.out]; exact O7, B7⟩
      case round =>
        obtain ⟨j, hj, rfl, hO, hB7⟩ := hrel
        clear O7 B7
        by_cases hlt : j < N
        · have hc := cellsGet hO j hlt
          rw [vals_get _ _ _ hlt, sq2_out p i0 i1 (j + 1), show ((j + 1 : Nat) : Int) = (j : Int) + 1 by omega] at hc
          have j0 : (0 : Int) ≤ (j : Int) := by omega
          have j1 : (j : Int) < (N : Int) := by omega
          have hq0 : 0 ≤ ((j : Int) + 1) / (p : Int) := Int.ediv_nonneg (by omega) (by omega)
          have hqt : (((j : Int) + 1) / (p : Int)).tmod 2 = ((j : Int) + 1) / (p : Int) % 2 := Int.tmod_eq_emod_of_nonneg hq0
          rcases (by omega : ((j : Int) + 1) / (p : Int) % 2 = 1 ∨ ((j : Int) + 1) / (p : Int) % 2 = 0) with he | he
          · rw [he, if_pos rfl] at hc
            rw [he] at hqt
            go_wp2
            exact ⟨⟨j + 1, by omega, by go_num, hO, hB7⟩, by simp [intOf]; omega⟩
          · rw [he, if_neg (by decide)] at hc
            rw [he] at hqt
            go_wp2
            exact ⟨⟨j + 1, by omega, by go_num, hO, hB7⟩, by simp [intOf]; omega⟩
        · obtain rfl : j = N := by omega
          go_wp2
          go_ret
          exact ⟨rfl, hB7⟩
set_option maxHeartbeats 4000000 in
set_option maxRecDepth 100000 in
theorem square_any (p v : Int) (w : World) : Calls Try.prog 10 #[iv p, iv v] w fun e w' => e = .returned (.bool true) ∧ Below w.heap.size w w' := by
  by_cases h0 : p < 1
  · go_enter Try.func10, Try.ntmps10
    go_wp2
    go_ret
    exact ⟨rfl, Below.refl _ _⟩
  have d0 : decide (p < 1) = false := decide_eq_false h0
  by_cases h1 : 400 < p
  · go_enter Try.func10, Try.ntmps10
    go_wp2
    go_ret
    exact ⟨rfl, Below.refl _ _⟩
  have d1 : decide (400 < p) = false := decide_eq_false h1
  by_cases h2 : v < 0
  · go_enter Try.func10, Try.ntmps10
    go_wp2
    go_ret
    exact ⟨rfl, Below.refl _ _⟩
  have d2 : decide (v < 0) = false := decide_eq_false h2
  by_cases h3 : 2 < v
  · go_enter Try.func10, Try.ntmps10
    go_wp2
    go_ret
    exact ⟨rfl, Below.refl _ _⟩
  obtain ⟨k, rfl⟩ := Int.eq_ofNat_of_zero_le (by omega : 0 ≤ p)
  rcases (by omega : v = 0 ∨ v = 1 ∨ v = 2) with rfl | rfl | rfl
  · exact square0 k (by omega) (by omega) w
  · exact square1 k (by omega) (by omega) w
  · exact square2 k (by omega) (by omega) w
end Go.Proofs.Ytfpgidflaaefeaa.CH

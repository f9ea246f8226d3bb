/- The tone chip: many steps, by the program and by the reference; conditions: the chip is in its ranges, at most 200,000 steps. -/
import Derived.Test.YtfpgidflaaefeaaChD
import Derived.Test.YtfpgidflaaefeaaChF
import Derived.Test.YtfpgidflaaefeaaChH
import Derived.Deep.AppendLies
namespace Go.Proofs.Ytfpgidflaaefeaa.CH
open Go.RowKit Go.Proofs.YtfpgidflaaefeaaW.PrintLast
set_option linter.unusedVariables false
set_option linter.unusedSimpArgs false
theorem T.one (t : T) : t.cs.all (·.oneCell') = true := by simp [T.cs, Value.oneCell']
theorem T.i71 (t : T) : (Try.prog.info? 71).map (·.size) = some t.cs.size := by
  rw [show t.cs.size = 24 from rfl]
  kernel_rfl
theorem T.i35 (t : T) : (Try.prog.info? 35).map (·.size) = some t.cs.size := by
  rw [show t.cs.size = 24 from rfl]
  kernel_rfl
theorem T.sz (s t : T) : s.cs.size = t.cs.size := rfl
theorem nz_bd {n : Int} (h0 : 1 ≤ n) (h1 : n ≤ 131071) : 1 ≤ nz n ∧ nz n ≤ 131071 := by
  unfold nz
  obtain ⟨a, b⟩ := i64_xor_bd n (n / 8) (by omega) (by omega) (by omega) (by omega)
  by_cases h : 2 ≤ n
  · omega
  · obtain rfl : n = 1 := by omega
    decide
theorem fol_bd {s t : Int} (t0 : 0 ≤ t) (t1 : t ≤ 63) : 0 ≤ fol s t ∧ fol s t ≤ 63 := by unfold fol; repeat' split <;> omega
theorem fin_ok {t : T} (h : t.Ok) : t.fin.Ok := by
  obtain ⟨a0, a0'⟩ := mx1_bd (x := t.r6 % 32) (m := 31) (by omega) (by omega)
  have hr := h.or11
  have hr' := h.or12
  obtain ⟨a1, a1'⟩ := mx1_bd (x := t.r11 + 256 * t.r12) (m := 65535) (by omega) (by omega)
  exact { h with onc := nx_bd h.onc.1 h.onc.2 (by omega), on := by simp only [T.fin]; split; exact nz_bd h.on.1 h.on.2; exact h.on, oec := nx_bd h.oec.1 h.oec.2 (by omega), oes := by simp only [T.fin]; split; exact fol_bd h.oes.1 h.oes.2; exact h.oes }
theorem step_ok {t : T} (h : t.Ok) : t.step.Ok := fin_ok (tk_ok h)
/-- the chip after some steps -/
def T.run (t : T) : Nat → T
  | 0 => t
  | k + 1 => (t.run k).step
theorem run_ok {t : T} (h : t.Ok) : ∀ k, (t.run k).Ok
  | 0 => h
  | k + 1 => step_ok (run_ok h k)
/-- what it puts out, step by step -/
def T.vals (t : T) (n : Nat) : List Int := (List.range n).map fun i => (t.run (i + 1)).out 3
theorem vals_len (t : T) (n : Nat) : (t.vals n).length = n := by simp [T.vals]
theorem vals_succ (t : T) (n : Nat) : t.vals (n + 1) = t.vals n ++ [(t.run (n + 1)).out 3] := by simp [T.vals, List.range_succ]
theorem out_bd (t : T) : 0 ≤ t.out 3 ∧ t.out 3 ≤ 24576 := by
  have a := tout_bd t.b0 t.n t.r7 1 8 t.r8 (t.r13 % 16) t.es
  have b := tout_bd t.b1 t.n t.r7 2 16 t.r9 (t.r13 % 16) t.es
  have c := tout_bd t.b2 t.n t.r7 4 32 t.r10 (t.r13 % 16) t.es
  show 0 ≤ _ + _ + _ ∧ _ + _ + _ ≤ 24576
  omega
/-- the made row after k steps -/
def rowk (t : T) (n k : Nat) : List Value := (t.vals k).map iv ++ List.replicate (n - k) (iv 0)
theorem rowk_len (t : T) (n k : Nat) (h : k ≤ n) : (rowk t n k).length = n := by simp [rowk, vals_len]; omega
theorem rowk_set (t : T) (n k : Nat) (h : k < n) : (rowk t n k).set k (iv ((t.run (k + 1)).out 3)) = rowk t n (k + 1) := by
  unfold rowk
  rw [vals_succ, List.set_append, if_neg (by simp [vals_len])]
  simp only [List.length_map, vals_len, Nat.sub_self]
  rw [show n - k = (n - (k + 1)) + 1 by omega, List.replicate_succ, List.set_cons_zero]
  simp
theorem rowk_at (t : T) (n k : Nat) (h : k < n) : (rowk t n k)[k]? = some (iv 0) := by
  unfold rowk
  rw [List.getElem?_append_right (by simp [vals_len])]
  simp only [List.length_map, vals_len, Nat.sub_self, List.getElem?_replicate]
  rw [if_pos (by omega)]
theorem rowk_end (t : T) (n : Nat) : rowk t n n = (t.vals n).map iv := by simp [rowk]
theorem ownN {w : World} {B n : Nat} {v : Value} {xs ys : List Value} (h : w.ownsRow B 3 1 v n xs) (e : xs = ys) : w.ownsRow B 3 1 v n ys := e ▸ h
theorem grBlk {w w' : World} {row : Option Nat} {g : Nat} {o : Obj} (h : w.heap[g]? = some o) (hg : w.grownBy w' row) (hne : some g ≠ row) : w'.heap[g]? = some o := (hg.block g (bkLt h) hne).trans h
theorem ownBelow {w w1 : World} {B g n c : Nat} {xs : List Value} (h : w.ownsRow B 3 1 (.slice (some ⟨g, 0, none⟩) n c) n xs) (hb : Below w.heap.size w w1) : w1.ownsRow B 3 1 (.slice (some ⟨g, 0, none⟩) n c) n xs := by
  refine ⟨h.1, ?_⟩
  rcases h.2 with ⟨h', _⟩ | ⟨g', cap', cur, h', h1, hg, h2⟩
  · simp at h'
  · exact .inr ⟨g', cap', cur, h', h1, bkBelow hg hb, h2⟩
theorem ownFar {w : World} {B g n c : Nat} {xs : List Value} (h : w.ownsRow B 3 1 (.slice (some ⟨g, 0, none⟩) n c) n xs) (k : Nat) (hk : k ≠ g) (cs : Array Value) : (w.setRow k cs).ownsRow B 3 1 (.slice (some ⟨g, 0, none⟩) n c) n xs := by
  refine ⟨h.1, ?_⟩
  rcases h.2 with ⟨h', _⟩ | ⟨g', cap', cur, h', h1, hg, h2⟩
  · simp at h'
  · simp only [Value.slice.injEq, Option.some.injEq, Addr.mk.injEq, and_true, true_and] at h'
    obtain ⟨rfl, rfl⟩ := h'
    exact .inr ⟨g, c, cur, rfl, h1, (setRow_other w k g cs (Ne.symm hk)).trans hg, h2⟩
set_option maxHeartbeats 16000000 in
set_option maxRecDepth 100000 in
theorem runs_any (t : T) (ht : t.Ok) (n : Nat) (hn : n ≤ 200000) (w : World) :
    Calls Try.prog 42 #[.agg t.cs, iv n] w fun e w' => ∃ g, e = .returned (.tuple #[.slice (some ⟨g, 0, none⟩) n n, .agg (t.run n).cs]) ∧ w'.ownsRow w.heap.size 3 1 (.slice (some ⟨g, 0, none⟩) n n) n ((t.vals n).map iv) ∧ Below w.heap.size w w' := by
  obtain ⟨i0, hi, hz0, hz1, hz2⟩ := info_parts info3
  have HA := fun (o : Obj) => bkAlloc (heap_alloc_new w (Obj.cells t.cs 71)) o
  have hn0 : (0 : Int) ≤ n := by omega
  go_enter Try.func42, Try.ntmps42
  go_wp2_with (first
    | (at_make; refine wpList_make_full _ rfl _ _ 23 rfl w.heap.size 3 i0 (.int .i64 0) 1 Try.underlying23 hi hz0 hz1 .i64 .i64 _ _ n rfl rfl rfl rfl (by rw [hz2]; omega) (by unfold maxLen; omega) (by simp; omega) ?_; intro w1 hown hgrow; simp only [World.size_alloc] at hown)
    | (go_at_call 33; (with_reducible refine (lev _).mono ?_); rintro e w2 ⟨rfl, hb2⟩; have ho2 := ownBelow hown hb2; have B1 : Below w.heap.size w w1 := (((Below.refl _ _).alloc (Nat.le_refl _) _).alloc (by simp) _).grown hgrow (by simp; omega) (by simp); have T2 := bkBelow (grBlk (heap_alloc2_old w _ _) hgrow (by simp)) hb2; have Z2 := bkBelow (grBlk (heap_alloc2_new w _ _) hgrow (by simp)) hb2; have B2 := bdT B1 B1.size hb2; have L2 := heap_alloc_new w2 (Obj.cells #[iv 0, iv 0, iv 0, iv 0, iv 0, iv 0, iv 0, iv 0, iv 0, iv 0, iv 0, iv 0, iv 0, iv 0, iv 0, iv 0] 65))
    | (refine wpList_store_row rfl 65 (.tmp 7) (.tmp 11) rfl (w2.heap.size) lvL rfl rfl 65 _ L2 (by kernel_rfl) rfl (by kernel_rfl) ?_))
  have T3 := (setRow_other (w2.alloc (Obj.cells #[iv 0, iv 0, iv 0, iv 0, iv 0, iv 0, iv 0, iv 0, iv 0, iv 0, iv 0, iv 0, iv 0, iv 0, iv 0, iv 0] 65)) w2.heap.size w.heap.size lvL (by have := B2.size; have := bkLt T2; omega)).trans (bkAlloc T2 _)
  have Z3 := (setRow_other (w2.alloc (Obj.cells #[iv 0, iv 0, iv 0, iv 0, iv 0, iv 0, iv 0, iv 0, iv 0, iv 0, iv 0, iv 0, iv 0, iv 0, iv 0, iv 0] 65)) w2.heap.size (w.heap.size + 1) lvL (by have := bkLt Z2; omega)).trans (bkAlloc Z2 _)
  have L3 := setRow_heap (w2.alloc (Obj.cells #[iv 0, iv 0, iv 0, iv 0, iv 0, iv 0, iv 0, iv 0, iv 0, iv 0, iv 0, iv 0, iv 0, iv 0, iv 0, iv 0] 65)) w2.heap.size _ lvL 65 (0, 0) L2
  have hG : w.heap.size + 1 + 1 < w2.heap.size := by
    rcases ho2.2 with ⟨h', _⟩ | ⟨g', cap', cur, h', h1, hg, _⟩
    · simp at h'
    · simp only [Value.slice.injEq, Option.some.injEq, Addr.mk.injEq, and_true, true_and] at h'
      obtain ⟨rfl, rfl⟩ := h'
      exact bkLt hg
  have O3 := ownFar (ownBelow ho2 ((Below.refl w2.heap.size w2).alloc (Nat.le_refl _) (Obj.cells #[iv 0, iv 0, iv 0, iv 0, iv 0, iv 0, iv 0, iv 0, iv 0, iv 0, iv 0, iv 0, iv 0, iv 0, iv 0, iv 0] 65))) w2.heap.size (by simpa using Nat.ne_of_gt hG) lvL
  have B3 := below_setRow (B2.alloc (by have := B2.size; omega) (Obj.cells #[iv 0, iv 0, iv 0, iv 0, iv 0, iv 0, iv 0, iv 0, iv 0, iv 0, iv 0, iv 0, iv 0, iv 0, iv 0, iv 0] 65)) (g := w2.heap.size) (by have := B2.size; omega) lvL
  clear hown hgrow hb2 T2 Z2 B2 L2 B1 ho2
  go_loopw [14] (fun v wr => ∃ k : Nat, k ≤ n ∧ v = iv k ∧ wr.heap[w.heap.size]? = some (.cells (t.run k).cs 71 (0, 0)) ∧ wr.heap[w.heap.size + 1]? = some (.cells #[iv 0, iv 0, iv 0, iv 0, iv 0, iv 0, iv 0, iv 0, iv 0, iv 0, iv 0, iv 0, iv 0, iv 0, iv 0, iv 0, iv 0, iv 0, iv 0, iv 0, iv 0, iv 0, iv 0, iv 0] 71 (0, 0)) ∧ wr.heap[w2.heap.size]? = some (.cells lvL 65 (0, 0)) ∧ wr.ownsRow w.heap.size 3 1 (.slice (some ⟨w.heap.size + 1 + 1, 0, none⟩) n n) n (rowk t n k) ∧ Below w.heap.size w wr) (fun v _ => n - (intOf v).toNat)
  case atStart => exact ⟨0, by omega, rfl, T3, Z3, L3, ownN O3 (by rw [Nat.mul_one]; exact (toList_madeCells_one _ _).trans (by simp [rowk, T.vals])), B3⟩
  case round =>
    obtain ⟨k, hk, rfl, hT, hZ, hL, hO, hB⟩ := hrel
    clear T3 Z3 L3 O3 B3
    by_cases hlt : k < n
    · have hlt' : (k : Int) < (n : Int) := by omega
      have hk0 : (0 : Int) ≤ (k : Int) := by omega
      go_wp2_with (first
        | (refine wpList_load_row rfl 71 (.tmp 2) rfl (w.heap.size) rfl 71 _ (0, 0) _ hT Try.underlying71 rfl (T.i71 _) ?_)
        | (go_at_call 57; (with_reducible refine (stepped_any _ (run_ok ht k) _).mono ?_); rintro e w4 ⟨rfl, hb4⟩; have T4 := bkBelow hT hb4; have Z4 := bkBelow hZ hb4; have L4 := bkBelow hL hb4; have O4 := ownBelow hO hb4; have B4 := bdT hB hB.size hb4; clear hT hZ hL hO hB hb4)
        | (refine wpList_store_row rfl 71 (.tmp 2) (.tmp 18) rfl (w.heap.size) (T.step (T.run t k)).cs rfl rfl 71 _ T4 (T.i71 _) (T.sz _ _) (T.one _) ?_; have T5 := setRow_heap _ _ _ (T.step (T.run t k)).cs _ _ T4; have Z5 := (setRow_other w4 w.heap.size (w.heap.size + 1) (T.step (T.run t k)).cs (by omega)).trans Z4; have L5 := (setRow_other w4 w.heap.size w2.heap.size (T.step (T.run t k)).cs (by omega)).trans L4; have O5 := ownFar O4 w.heap.size (by omega) (T.step (T.run t k)).cs; have B5 := below_setRow B4 (g := w.heap.size) (Nat.le_refl _) (T.step (T.run t k)).cs; clear T4 Z4 L4 O4 B4)
        | (go_at_call 58; (with_reducible refine (value_any (T.step (T.run t k)) (step_ok (run_ok ht k)) _ _ _ T5 L5).mono ?_); rintro e w6 ⟨rfl, hb6⟩; have T6 := bkBelow T5 hb6; have Z6 := bkBelow Z5 hb6; have L6 := bkBelow L5 hb6; have O6 := ownBelow O5 hb6; have B6 := bdT B5 B5.size hb6; clear T5 Z5 L5 O5 B5 hb6; have c6 : w6.cell? ⟨w.heap.size + 1 + 1, k, none⟩ = some (iv 0) := (O6.cellAt k (by omega)).trans (rowk_at t n k hlt); have f6 := O6.frozenAt k))
      go_wp2
      exact ⟨⟨k + 1, by omega, by go_num, bkFar T6 (by simp; omega) _, bkFar Z6 (by simp) _, bkFar L6 (by simp; omega) _, ownN (O6.stored k _).1 (rowk_set t n k hlt), B6.setCell (by simp; omega) _⟩, by simp [intOf]; omega⟩
    · obtain rfl : k = n := by omega
      rw [rowk_end] at hO
      go_wp2
      refine start_ (n := 4) (S := fun w' => w'.heap[w.heap.size]? = some (.cells (T.run t k).cs 71 (0, 0)) ∧ w'.heap[w.heap.size + 1]? = some (.cells #[iv 0, iv 0, iv 0, iv 0, iv 0, iv 0, iv 0, iv 0, iv 0, iv 0, iv 0, iv 0, iv 0, iv 0, iv 0, iv 0, iv 0, iv 0, iv 0, iv 0, iv 0, iv 0, iv 0, iv 0] 71 (0, 0)) ∧ w'.ownsRow w.heap.size 3 1 (.slice (some ⟨w.heap.size + 1 + 1, 0, none⟩) k k) k ((T.vals t k).map iv) ∧ Below w.heap.size w w') (ds := [3]) #[false, false, false, false] (by kernel_rfl) rfl rfl ⟨hT, hZ, hO.drew, hB.drew⟩ (fun hHeld => ?_)
      refine pure_ (i := 0) (N := some 24) (v := ?_) (a' := ?_) #[true, false, false, false] rfl rfl (by kernel_rfl) (fun _ _ _ h => h) (Or.inl ⟨by rfl, ?_⟩) ?_ ?_
      rotate_left
      · intro w'
        go_simp
        with_reducible rfl
      rotate_left
      · simp only [Act.put, List.setIfInBounds_toArray, List.set_cons_zero, List.set_cons_succ, i64_w, i32_w]
        rfl
      refine pure_ (i := 2) (N := some 4) (v := ?_) (a' := ?_) #[true, false, true, false] rfl rfl (by kernel_rfl) (fun _ _ _ h => h) (Or.inl ⟨by rfl, ?_⟩) ?_ ?_
      rotate_left
      · intro w'
        go_simp
        with_reducible rfl
      rotate_left
      · simp only [Act.put, List.setIfInBounds_toArray, List.set_cons_zero, List.set_cons_succ, i64_w, i32_w]
        rfl
      refine take_ (i := 1) (N := some 25) (v := ?_) (a' := ?_) #[true, true, true, false] rfl rfl (by kernel_rfl) (fun _ _ _ h => h) (Or.inl ⟨by rfl, ?_⟩) hHeld ?_ ?_
      rotate_left
      · rintro w' ⟨s0, s1, s2, s3⟩
        refine exec_load_row 71 (.tmp 2) ?_ (w.heap.size) ?_ 71 _ _ _ s0 Try.underlying71 rfl (T.i71 _) <;> rfl
      rotate_left
      · simp only [Act.put, List.setIfInBounds_toArray, List.set_cons_zero, List.set_cons_succ, i64_w, i32_w]
        rfl
      refine last_ (i := 3) (N := none) #[true, true, true, true] rfl rfl (by kernel_rfl) (by decide) (fun K hK => ?_)
      obtain ⟨T9, Z9, O9, B9⟩ := hHeld
      refine skip_ (w1 := ?_) (by rfl) rfl ?_ ?_
      rotate_left
      · refine exec_store_row 71 (.tmp 5) (.tmp 25) ?_ (w.heap.size + 1) (T.run t k).cs ?_ ?_ 71 _ Z9 (T.i71 _) (T.sz T.zero _) (T.one _) <;> rfl
      refine hK.out _ _ ?_
      clear hK K
      refine done_ (by kernel_rfl) ?_
      go_wp2
      refine bodyPost_ret (res_tc rfl _ _ (w.heap.size + 1) 71 _ (0, 0) _ rfl (setRow_heap _ _ _ _ _ _ Z9) Try.underlying71 rfl (T.i71 _)) rfl ⟨_, rfl, ownFar O9 _ (by omega) _, below_setRow B9 (by omega) _⟩
theorem ownFarA {w : World} {B g n c : Nat} {xs : List Value} (h : w.ownsRow B 3 1 (.slice (some ⟨g, 0, none⟩) n c) n xs) : g < w.heap.size := by
  rcases h.2 with ⟨h', _⟩ | ⟨g', cap', cur, h', h1, hg, h2⟩
  · simp at h'
  · simp only [Value.slice.injEq, Option.some.injEq, Addr.mk.injEq, and_true, true_and] at h'
    obtain ⟨rfl, rfl⟩ := h'
    exact bkLt hg
theorem ownB {w w1 : World} {B g n c m : Nat} {xs : List Value} (h : w.ownsRow B 3 1 (.slice (some ⟨g, 0, none⟩) n c) m xs) (hb : Below w.heap.size w w1) : w1.ownsRow B 3 1 (.slice (some ⟨g, 0, none⟩) n c) m xs := by
  refine ⟨h.1, ?_⟩
  rcases h.2 with ⟨h', _⟩ | ⟨g', cap', cur, h', h1, hg, h2⟩
  · simp at h'
  · exact .inr ⟨g', cap', cur, h', h1, bkBelow hg hb, h2⟩
theorem ownFarN {w : World} {B g n c m : Nat} {xs : List Value} (h : w.ownsRow B 3 1 (.slice (some ⟨g, 0, none⟩) n c) m xs) (k : Nat) (hk : k ≠ g) (cs : Array Value) : (w.setRow k cs).ownsRow B 3 1 (.slice (some ⟨g, 0, none⟩) n c) m xs := by
  refine ⟨h.1, ?_⟩
  rcases h.2 with ⟨h', _⟩ | ⟨g', cap', cur, h', h1, hg, h2⟩
  · simp at h'
  · simp only [Value.slice.injEq, Option.some.injEq, Addr.mk.injEq, and_true, true_and] at h'
    obtain ⟨rfl, rfl, rfl⟩ := h'
    exact .inr ⟨g, c, cur, rfl, h1, (setRow_other w k g cs (Ne.symm hk)).trans hg, h2⟩
theorem ownN' {w : World} {B n : Nat} {v : Value} {xs ys : List Value} (h : w.ownsRow B 3 1 v n xs) (e : xs = ys) : w.ownsRow B 3 1 v n ys := e ▸ h
set_option maxHeartbeats 16000000 in
set_option maxRecDepth 100000 in
theorem ran_any (t : T) (ht : t.Ok) (n : Nat) (hn : n ≤ 200000) (w : World) :
    Calls Try.prog 22 #[.agg t.cs, iv n] w fun e w' => ∃ g, e = .returned (.tuple #[.slice (some ⟨g, 0, none⟩) n n, .agg (t.run n).cs]) ∧ w'.ownsRow w.heap.size 3 1 (.slice (some ⟨g, 0, none⟩) n n) n ((t.vals n).map iv) ∧ Below w.heap.size w w' := by
  obtain ⟨i0, hi, hz0, hz1, hz2⟩ := info_parts info3
  have hn0 : (0 : Int) ≤ n := by omega
  go_enter Try.func22, Try.ntmps22
  go_wp2_with (first
    | (at_make; refine wpList_make_own _ rfl _ _ 23 rfl w.heap.size 3 i0 (.int .i64 0) 1 Try.underlying23 hi hz0 hz1 .i64 .i64 _ n rfl rfl rfl (by rw [hz2]; omega) (by unfold maxLen; omega) (by simp; omega) ?_; intro w1 hown hgrow; simp only [World.size_alloc] at hown))
  have B1 : Below w.heap.size w w1 := (((Below.refl _ _).alloc (Nat.le_refl _) _).alloc (by simp) _).grown hgrow (by simp; omega) (by simp)
  have T1 := grBlk (heap_alloc2_old w _ _) hgrow (by simp)
  have Z1 := grBlk (heap_alloc2_new w _ _) hgrow (by simp)
  clear hgrow
  go_loopw [6, 7] (fun s v wr => ∃ k : Nat, k ≤ n ∧ v = iv k ∧ s = .slice (some ⟨w.heap.size + 1 + 1, 0, none⟩) k n ∧ wr.heap[w.heap.size]? = some (.cells (t.run k).cs 35 (0, 0)) ∧ wr.heap[w.heap.size + 1]? = some (.cells #[iv 0, iv 0, iv 0, iv 0, iv 0, iv 0, iv 0, iv 0, iv 0, iv 0, iv 0, iv 0, iv 0, iv 0, iv 0, iv 0, iv 0, iv 0, iv 0, iv 0, iv 0, iv 0, iv 0, iv 0] 35 (0, 0)) ∧ wr.ownsRow w.heap.size 3 1 (.slice (some ⟨w.heap.size + 1 + 1, 0, none⟩) k n) k ((t.vals k).map iv) ∧ Below w.heap.size w wr) (fun _ v _ => n - (intOf v).toNat)
  case atStart => exact ⟨0, by omega, rfl, rfl, T1, Z1, hown, B1⟩
  case round =>
    obtain ⟨k, hk, rfl, rfl, hT, hZ, hO, hB⟩ := hrel
    clear T1 Z1 hown B1
    by_cases hlt : k < n
    · have hlt' : (k : Int) < (n : Int) := by omega
      have hk0 : (0 : Int) ≤ (k : Int) := by omega
      have tok1 : True := trivial
      go_wp2_with (first
        | (refine wpList_load_row rfl 35 (.tmp 2) rfl (w.heap.size) rfl 35 _ (0, 0) _ hT Try.underlying35 rfl (T.i35 _) ?_)
        | (go_at_call 43; (with_reducible refine (rstepped_any _ (run_ok ht k) _).mono ?_); rintro e w4 ⟨rfl, hb4⟩; have T4 := bkBelow hT hb4; have Z4 := bkBelow hZ hb4; have O4 := ownB hO hb4; have B4 := bdT hB hB.size hb4; clear hT hZ hO hB hb4)
        | (refine wpList_store_row rfl 35 (.tmp 2) (.tmp 16) rfl (w.heap.size) (T.step (T.run t k)).cs rfl rfl 35 _ T4 (T.i35 _) (T.sz _ _) (T.one _) ?_; have T5 := setRow_heap _ _ _ (T.step (T.run t k)).cs _ _ T4; have Z5 := (setRow_other w4 w.heap.size (w.heap.size + 1) (T.step (T.run t k)).cs (by omega)).trans Z4; have O5 := ownFarN O4 w.heap.size (by omega) (T.step (T.run t k)).cs; have B5 := below_setRow B4 (g := w.heap.size) (Nat.le_refl _) (T.step (T.run t k)).cs; clear T4 Z4 O4 B4)
        | (refine wpList_load_row rfl 35 (.tmp 2) rfl (w.heap.size) rfl 35 _ (0, 0) _ T5 Try.underlying35 rfl (T.i35 _) ?_)
        | (go_at_call 44; (with_reducible refine (rsum_any (T.step (T.run t k)) (step_ok (run_ok ht k)) _).mono ?_); rintro e w6 ⟨rfl, hb6⟩; have T6 := bkBelow T5 hb6; have Z6 := bkBelow Z5 hb6; have O6 := ownB O5 hb6; have B6 := bdT B5 B5.size hb6; clear T5 Z5 O5 B5 hb6)
        | (at_builtin; refine wpList_append_fits _ rfl _ _ 23 rfl w.heap.size 3 i0 1 Try.underlying23 hi hz1 (w.heap.size + 1 + 1) k n _ rfl (ownB O6 ((Below.refl _ _).alloc (Nat.le_refl _) _)) ⟨w6.heap.size, 0, none⟩ 1 1 [iv (T.out (T.step (T.run t k)) 3)] rfl rfl (World.news_of_block (cs := #[iv (T.out (T.step (T.run t k)) 3)]) (t := 3) (fr := (0, 0)) (heap_alloc_new w6 _)) (by simp [Value.oneCell']) (by omega) ?_; intro w7 hown7 hgrow7; have T7 := grBlk (bkAlloc T6 _) hgrow7 (by simp; omega); have Z7 := grBlk (bkAlloc Z6 _) hgrow7 (by simp); have B7 := (B6.alloc B6.size _).grown hgrow7 (by have := B6.size; simp; omega) (by simp; omega); clear T6 Z6 O6 B6 hgrow7))
      exact ⟨⟨k + 1, by omega, by go_num, rfl, T7, Z7, ownN' hown7 (by rw [vals_succ, List.map_append]; rfl), B7⟩, by simp [intOf]; omega⟩
    · obtain rfl : k = n := by omega
      go_wp2
      refine start_ (n := 4) (S := fun w' => w'.heap[w.heap.size]? = some (.cells (T.run t k).cs 35 (0, 0)) ∧ w'.heap[w.heap.size + 1]? = some (.cells #[iv 0, iv 0, iv 0, iv 0, iv 0, iv 0, iv 0, iv 0, iv 0, iv 0, iv 0, iv 0, iv 0, iv 0, iv 0, iv 0, iv 0, iv 0, iv 0, iv 0, iv 0, iv 0, iv 0, iv 0] 35 (0, 0)) ∧ w'.ownsRow w.heap.size 3 1 (.slice (some ⟨w.heap.size + 1 + 1, 0, none⟩) k k) k ((T.vals t k).map iv) ∧ Below w.heap.size w w') (ds := [3]) #[false, false, false, false] (by kernel_rfl) rfl rfl ⟨hT, hZ, hO.drew, hB.drew⟩ (fun hHeld => ?_)
      refine pure_ (i := 0) (N := some 22) (v := ?_) (a' := ?_) #[true, false, false, false] rfl rfl (by kernel_rfl) (fun _ _ _ h => h) (Or.inl ⟨by rfl, ?_⟩) ?_ ?_
      rotate_left
      · intro w'
        go_simp
        with_reducible rfl
      rotate_left
      · simp only [Act.put, List.setIfInBounds_toArray, List.set_cons_zero, List.set_cons_succ, i64_w, i32_w]
        rfl
      refine pure_ (i := 2) (N := some 4) (v := ?_) (a' := ?_) #[true, false, true, false] rfl rfl (by kernel_rfl) (fun _ _ _ h => h) (Or.inl ⟨by rfl, ?_⟩) ?_ ?_
      rotate_left
      · intro w'
        go_simp
        with_reducible rfl
      rotate_left
      · simp only [Act.put, List.setIfInBounds_toArray, List.set_cons_zero, List.set_cons_succ, i64_w, i32_w]
        rfl
      refine take_ (i := 1) (N := some 23) (v := ?_) (a' := ?_) #[true, true, true, false] rfl rfl (by kernel_rfl) (fun _ _ _ h => h) (Or.inl ⟨by rfl, ?_⟩) hHeld ?_ ?_
      rotate_left
      · rintro w' ⟨s0, s1, s2, s3⟩
        refine exec_load_row 35 (.tmp 2) ?_ (w.heap.size) ?_ 35 _ _ _ s0 Try.underlying35 rfl (T.i35 _) <;> rfl
      rotate_left
      · simp only [Act.put, List.setIfInBounds_toArray, List.set_cons_zero, List.set_cons_succ, i64_w, i32_w]
        rfl
      refine last_ (i := 3) (N := none) #[true, true, true, true] rfl rfl (by kernel_rfl) (by decide) (fun K hK => ?_)
      obtain ⟨T9, Z9, O9, B9⟩ := hHeld
      refine skip_ (w1 := ?_) (by rfl) rfl ?_ ?_
      rotate_left
      · refine exec_store_row 35 (.tmp 5) (.tmp 23) ?_ (w.heap.size + 1) (T.run t k).cs ?_ ?_ 35 _ Z9 (T.i35 _) (T.sz T.zero _) (T.one _) <;> rfl
      refine hK.out _ _ ?_
      clear hK K
      refine done_ (by kernel_rfl) ?_
      go_wp2
      refine bodyPost_ret (res_tc rfl _ _ (w.heap.size + 1) 35 _ (0, 0) _ rfl (setRow_heap _ _ _ _ _ _ Z9) Try.underlying35 rfl (T.i35 _)) rfl ⟨_, rfl, ownFar O9 _ (by omega) _, below_setRow B9 (by omega) _⟩
end Go.Proofs.Ytfpgidflaaefeaa.CH

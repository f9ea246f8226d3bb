/- A law about the tone chip: its values and its state through any script of writes and steps. -/
import Derived.Test.YtfpgidflaaefeaaChM
namespace Go.Proofs.Ytfpgidflaaefeaa.CH
open Go.RowKit Go.Proofs.YtfpgidflaaefeaaW.PrintLast
set_option linter.unusedVariables false
set_option linter.unusedSimpArgs false
theorem run_int (t : T) (ht : t.Ok) (n : Nat) (m : Int) (hm : m = n) (hn : n ≤ 200000) (w : World) : Calls Try.prog 20 #[.agg t.cs, iv m] w fun e w' => ∃ g, e = .returned (.tuple #[.slice (some ⟨g, 0, none⟩) n n, .agg (t.run n).cs, iv 0]) ∧ w'.ownsRow w.heap.size 3 1 (.slice (some ⟨g, 0, none⟩) n n) n ((t.vals n).map iv) ∧ Below w.heap.size w w' := by
  subst hm
  exact run_fine t ht n hn w
theorem ran_int (t : T) (ht : t.Ok) (n : Nat) (m : Int) (hm : m = n) (hn : n ≤ 200000) (w : World) : Calls Try.prog 22 #[.agg t.cs, iv m] w fun e w' => ∃ g, e = .returned (.tuple #[.slice (some ⟨g, 0, none⟩) n n, .agg (t.run n).cs]) ∧ w'.ownsRow w.heap.size 3 1 (.slice (some ⟨g, 0, none⟩) n n) n ((t.vals n).map iv) ∧ Below w.heap.size w w' := by
  subst hm
  exact ran_any t ht n hn w
theorem bkDr {w : World} {g : Nat} {o : Obj} (h : w.heap[g]? = some o) (m : Nat) : (w.drewN m).drew.heap[g]? = some o := h
/-- the script's cells: three numbers an act -/
def Acts (w : World) (b off len : Nat) : Prop := ∀ i, i < len → ∃ r v s : Int, w.cell? ⟨b, off + i * 3, none⟩ = some (iv r) ∧ w.cell? ⟨b, off + i * 3 + 1, none⟩ = some (iv v) ∧ w.cell? ⟨b, off + i * 3 + 2, none⟩ = some (iv s) ∧ -9223372036854775808 ≤ s ∧ s ≤ 9223372036854775807
/-- one good act: what its four calls answer -/
theorem act_facts (t : T) (ht : t.Ok) (r v m : Int) (h0 : 0 ≤ r) (h1 : r ≤ 13) (h2 : 0 ≤ v) (h3 : v ≤ 255) (m0 : 0 ≤ m) (m1 : m ≤ 400) : ∃ (p q : T) (N : Nat) (xs : List Int), N ≤ 1000000 ∧ q.Ok ∧ (∀ w, Calls Try.prog 27 #[.agg t.cs, iv r, iv v] w fun e w' => e = .returned (.tuple #[.agg p.cs, iv 0]) ∧ Below w.heap.size w w') ∧ (∀ w, Calls Try.prog 31 #[.agg t.cs, iv r, iv v] w fun e w' => e = .returned (.agg p.cs) ∧ Below w.heap.size w w') ∧ (∀ w, Calls Try.prog 20 #[.agg p.cs, iv m] w fun e w' => ∃ g, e = .returned (.tuple #[.slice (some ⟨g, 0, none⟩) N N, .agg q.cs, iv 0]) ∧ w'.ownsRow w.heap.size 3 1 (.slice (some ⟨g, 0, none⟩) N N) N (xs.map iv) ∧ Below w.heap.size w w') ∧ (∀ w, Calls Try.prog 22 #[.agg p.cs, iv m] w fun e w' => ∃ g, e = .returned (.tuple #[.slice (some ⟨g, 0, none⟩) N N, .agg q.cs]) ∧ w'.ownsRow w.heap.size 3 1 (.slice (some ⟨g, 0, none⟩) N N) N (xs.map iv) ∧ Below w.heap.size w w') :=
  have hp := put_ok ht (r := r) h2 h3
  ⟨t.put r v, (t.put r v).run m.toNat, m.toNat, (t.put r v).vals m.toNat, by omega, run_ok hp _, fun w => write_fine t ht r v h0 h1 h2 h3 w, fun w => rwritten_any t r v h0 h1 w, fun w => run_int _ hp m.toNat m (by omega) (by omega) w, fun w => ran_int _ hp m.toNat m (by omega) (by omega) w⟩
set_option maxHeartbeats 16000000 in
set_option maxRecDepth 100000 in
theorem script_small (A : Option Addr) (b off len cap : Nat) (hlen : len ≤ 60) (w : World) (hA : 0 < len → A = some ⟨b, off, none⟩) (hX : Acts w b off len) (hbw : 0 < len → b < w.heap.size) : Calls Try.prog 12 #[.slice A len cap] w fun e w' => e = .returned (.bool true) ∧ Below w.heap.size w w' := by
  have d0 : decide (60 < (len : Int)) = false := decide_eq_false (by omega)
  have he0 := fun W => eqT T.new W
  have hez := fun W => eqT T.zero W
  have HX := Lib.hid hX
  have HA0 := Lib.hid hA
  clear hX hA
  go_enter Try.func12, Try.ntmps12
  go_wp2_with (first
    | (go_at_call 21; (with_reducible refine (new_any _).mono ?_); rintro e w1 ⟨rfl, hb1⟩)
    | (go_at_call 30; (with_reducible refine (rnew_any _).mono ?_); rintro e w2 ⟨rfl, hb2⟩; have B2 := bdT hb1 hb1.size hb2; have Z2 := Lib.hid (heap_alloc2_old w2 (Obj.cells #[iv 0, iv 0, iv 0, iv 0, iv 0, iv 0, iv 0, iv 0, iv 0, iv 0, iv 0, iv 0, iv 0, iv 0, iv 0, iv 0, iv 0, iv 0, iv 0, iv 0, iv 0, iv 0, iv 0, iv 0] 35) (Obj.cells #[iv 0, iv 0, iv 0, iv 0, iv 0, iv 0, iv 0, iv 0, iv 0, iv 0, iv 0, iv 0, iv 0, iv 0, iv 0, iv 0, iv 0, iv 0, iv 0, iv 0, iv 0, iv 0, iv 0, iv 0] 35)); have Y2 := Lib.hid (heap_alloc2_new w2 (Obj.cells #[iv 0, iv 0, iv 0, iv 0, iv 0, iv 0, iv 0, iv 0, iv 0, iv 0, iv 0, iv 0, iv 0, iv 0, iv 0, iv 0, iv 0, iv 0, iv 0, iv 0, iv 0, iv 0, iv 0, iv 0] 35) (Obj.cells #[iv 0, iv 0, iv 0, iv 0, iv 0, iv 0, iv 0, iv 0, iv 0, iv 0, iv 0, iv 0, iv 0, iv 0, iv 0, iv 0, iv 0, iv 0, iv 0, iv 0, iv 0, iv 0, iv 0, iv 0] 35)))
    | (refine wpList_store_row rfl 35 (.tmp 3) (.tmp 18) rfl (w2.heap.size) T.new.cs rfl rfl 35 _ Z2.out (T.i35 _) (T.sz T.zero _) (T.one _) ?_; have Z3 := Lib.hid (setRow_heap _ _ _ T.new.cs _ _ Z2.out); have Y3 := Lib.hid ((setRow_other _ w2.heap.size (w2.heap.size + 1) T.new.cs (by omega)).trans Y2.out); have B3 := below_setRow ((B2.alloc B2.size (Obj.cells #[iv 0, iv 0, iv 0, iv 0, iv 0, iv 0, iv 0, iv 0, iv 0, iv 0, iv 0, iv 0, iv 0, iv 0, iv 0, iv 0, iv 0, iv 0, iv 0, iv 0, iv 0, iv 0, iv 0, iv 0] 35)).alloc (by have := B2.size; simp; omega) (Obj.cells #[iv 0, iv 0, iv 0, iv 0, iv 0, iv 0, iv 0, iv 0, iv 0, iv 0, iv 0, iv 0, iv 0, iv 0, iv 0, iv 0, iv 0, iv 0, iv 0, iv 0, iv 0, iv 0, iv 0, iv 0] 35)) (g := w2.heap.size) B2.size T.new.cs; clear Z2 Y2)
    | (refine wpList_store_row rfl 35 (.tmp 4) (.tmp 19) rfl (w2.heap.size + 1) T.new.cs rfl rfl 35 _ Y3.out (T.i35 _) (T.sz T.zero _) (T.one _) ?_; have Y4 := Lib.hid (setRow_heap _ _ _ T.new.cs _ _ Y3.out); have Z4 := Lib.hid ((setRow_other _ (w2.heap.size + 1) w2.heap.size T.new.cs (by omega)).trans Z3.out); have B4 := below_setRow B3 (g := w2.heap.size + 1) (by have := B2.size; omega) T.new.cs; clear Z3 Y3)
    | (refine wpList_load_row rfl 35 (.tmp 3) rfl (w2.heap.size) rfl 35 _ (0, 0) _ Z4.out Try.underlying35 rfl (T.i35 _) ?_)
    | (refine wpList_load_row rfl 35 (.tmp 4) rfl (w2.heap.size + 1) rfl 35 _ (0, 0) _ Y4.out Try.underlying35 rfl (T.i35 _) ?_))
  go_loopw [25] (fun v wr => ∃ k : Nat, k ≤ len ∧ v = iv k ∧ (∃ t : T, t.Ok ∧ wr.heap[w2.heap.size]? = some (.cells t.cs 35 (0, 0)) ∧ wr.heap[w2.heap.size + 1]? = some (.cells t.cs 35 (0, 0))) ∧ Below w.heap.size w wr) (fun v _ => len - (intOf v).toNat)
  case atStart => exact ⟨0, by omega, rfl, ⟨T.new, new_ok, Z4.out, Y4.out⟩, B4⟩
  case round =>
    obtain ⟨k, hk, rfl, ⟨t, ht, hA, hC⟩, hB⟩ := hrel
    have HA := Lib.hid hA
    have HC := Lib.hid hC
    clear Z4 Y4 B4 hA hC he0
    by_cases hlt : k < len
    · obtain ⟨r, v, s, x0, x1, x2, s0, s1⟩ := HX.out k hlt
      have hbw' := hbw (by omega)
      have hA' := HA0.out (by omega)
      clear HA0
      subst hA'
      have y0 := (hB.cell (p := ⟨b, off + k * 3, none⟩) hbw').trans x0
      have y1 := (hB.cell (p := ⟨b, off + k * 3 + 1, none⟩) hbw').trans x1
      have y2 := (hB.cell (p := ⟨b, off + k * 3 + 2, none⟩) hbw').trans x2
      have k0 : (0 : Int) ≤ (k : Int) := by omega
      have k1 : (k : Int) < (len : Int) := by omega
      clear x0 x1 x2
      by_cases hg : 0 ≤ r ∧ r ≤ 13 ∧ 0 ≤ v ∧ v ≤ 255
      · obtain ⟨g0, g1, g2, g3⟩ := hg
        have e0 : decide (0 ≤ r) = true := decide_eq_true g0
        have e1 : decide (r < 14) = true := decide_eq_true (by omega)
        have e2 : decide (0 ≤ v) = true := decide_eq_true g2
        have e3 : decide (v ≤ 255) = true := decide_eq_true g3
        rcases (by omega : s ≤ 0 ∨ (0 < s ∧ s < 400) ∨ 400 ≤ s) with q0 | ⟨q0, q1⟩ | q0
        · obtain ⟨p, q, N, xs, hN3, hq, WF', WR', RN', RA'⟩ := act_facts t ht r v (0 : Int) g0 g1 g2 g3 (by omega) (by omega)
          have WF := Lib.hid WF'
          have WR := Lib.hid WR'
          have RN := Lib.hid RN'
          have RA := Lib.hid RA'
          have hep := fun W => eqT p W
          have her := fun W => eqT q W
          have HL := Lib.hid (bkLt HC.out)
          have n1 : (s < 400) = True := by simp; omega
          have n2 : (0 < s) = False := by simp; omega
          clear WF' WR' RN' RA'
          go_upto_region 10 with (first
            | (refine wpList_load_row rfl 35 (.tmp 3) rfl (w2.heap.size) rfl 35 _ (0, 0) _ (bkAlloc HA.out _) Try.underlying35 rfl (T.i35 _) ?_)
            | (go_at_call 27; (with_reducible refine (WF.out _).mono ?_); rintro e w4 ⟨rfl, hb4⟩; have A4 := Lib.hid (bkBelow (bkAlloc HA.out _) hb4); have C4 := Lib.hid (bkBelow (bkAlloc HC.out _) hb4); have B4 := bdT (hB.alloc hB.size _) (hB.alloc hB.size _).size hb4; have X4 := Lib.hid (bkBelow (heap_alloc_new wr (Obj.cells #[iv r, iv v, iv s] 54)) hb4); have HP4 := Lib.hid (bkLt C4.out); have P4 := Lib.hid (heap_alloc_new w4 (Obj.cells #[iv 0, iv 0, iv 0, iv 0, iv 0, iv 0, iv 0, iv 0, iv 0, iv 0, iv 0, iv 0, iv 0, iv 0, iv 0, iv 0, iv 0, iv 0, iv 0, iv 0, iv 0, iv 0, iv 0, iv 0] 35)); clear HA HC)
            | (refine wpList_store_row rfl 35 (.tmp 7) (.tmp 36) rfl (w4.heap.size) p.cs rfl rfl 35 _ P4.out (T.i35 _) (T.sz T.zero _) (T.one _) ?_; have A5 := Lib.hid ((setRow_other _ (w4.heap.size) (w2.heap.size) p.cs (by have := bkLt A4.out; omega)).trans (bkAlloc A4.out (Obj.cells #[iv 0, iv 0, iv 0, iv 0, iv 0, iv 0, iv 0, iv 0, iv 0, iv 0, iv 0, iv 0, iv 0, iv 0, iv 0, iv 0, iv 0, iv 0, iv 0, iv 0, iv 0, iv 0, iv 0, iv 0] 35))); have C5 := Lib.hid ((setRow_other _ (w4.heap.size) (w2.heap.size + 1) p.cs (by have := bkLt C4.out; omega)).trans (bkAlloc C4.out (Obj.cells #[iv 0, iv 0, iv 0, iv 0, iv 0, iv 0, iv 0, iv 0, iv 0, iv 0, iv 0, iv 0, iv 0, iv 0, iv 0, iv 0, iv 0, iv 0, iv 0, iv 0, iv 0, iv 0, iv 0, iv 0] 35))); have X5 := Lib.hid ((setRow_other _ (w4.heap.size) (wr.heap.size) p.cs (by have := bkLt X4.out; omega)).trans (bkAlloc X4.out (Obj.cells #[iv 0, iv 0, iv 0, iv 0, iv 0, iv 0, iv 0, iv 0, iv 0, iv 0, iv 0, iv 0, iv 0, iv 0, iv 0, iv 0, iv 0, iv 0, iv 0, iv 0, iv 0, iv 0, iv 0, iv 0] 35))); have P5 := Lib.hid (setRow_heap _ _ _ p.cs _ _ P4.out); have B5 := below_setRow (B4.alloc B4.size (Obj.cells #[iv 0, iv 0, iv 0, iv 0, iv 0, iv 0, iv 0, iv 0, iv 0, iv 0, iv 0, iv 0, iv 0, iv 0, iv 0, iv 0, iv 0, iv 0, iv 0, iv 0, iv 0, iv 0, iv 0, iv 0] 35)) (g := w4.heap.size) B4.size p.cs; have f0 := (bkCell X5.out 0).trans (show _ = some (iv r) from rfl); have f1 := (bkCell X5.out 1).trans (show _ = some (iv v) from rfl); clear A4 C4 P4 X4))
          go_upto_region 14 with (fail)
          go_upto_region 15 with (first
            | (refine wpList_load_row rfl 35 (.tmp 4) rfl (w2.heap.size + 1) rfl 35 _ (0, 0) _ C5.out Try.underlying35 rfl (T.i35 _) ?_)
            | (go_at_call 31; (with_reducible refine (WR.out _).mono ?_); rintro e w6 ⟨rfl, hb6⟩; have A6 := Lib.hid (bkBelow A5.out hb6); have C6 := Lib.hid (bkBelow C5.out hb6); have X6 := Lib.hid (bkBelow X5.out hb6); have P6 := Lib.hid (bkBelow P5.out hb6); have B6 := bdT B5 B5.size hb6; clear A5 C5 X5 P5 f0 f1)
            | (refine wpList_store_row rfl 35 (.tmp 4) (.tmp 70) rfl (w2.heap.size + 1) p.cs rfl rfl 35 _ C6.out (T.i35 _) (T.sz T.zero _) (T.one _) ?_; have A7 := Lib.hid ((setRow_other _ (w2.heap.size + 1) (w2.heap.size) p.cs (by omega)).trans A6.out); have X7 := Lib.hid ((setRow_other _ (w2.heap.size + 1) (wr.heap.size) p.cs (by have := HL.out; omega)).trans X6.out); have P7 := Lib.hid ((setRow_other _ (w2.heap.size + 1) (w4.heap.size) p.cs (by have := bkLt P6.out; have := HP4.out; omega)).trans P6.out); have C7 := Lib.hid (setRow_heap _ _ _ p.cs _ _ C6.out); have B7 := below_setRow B6 (g := w2.heap.size + 1) (by have := B2.size; omega) p.cs; have f2 := (bkCell X7.out 2).trans (show _ = some (iv s) from rfl); clear A6 C6 P6 X6))
          go_upto_region 17 with (first
            | (refine gdOn (by rfl) ?_; refine wpList_load_row rfl 35 (.tmp 7) rfl (w4.heap.size) rfl 35 _ (0, 0) _ P7.out Try.underlying35 rfl (T.i35 _) ?_)
            | (refine gdOn (by rfl) ?_; refine wpList_load_row rfl 35 (.tmp 4) rfl (w2.heap.size + 1) rfl 35 _ (0, 0) _ C7.out Try.underlying35 rfl (T.i35 _) ?_))
          go_upto_region 18 with (fail)
          go_upto_region 19 with (first
            | (refine wpList_load_row rfl 35 (.tmp 7) rfl (w4.heap.size) rfl 35 _ (0, 0) _ P7.out Try.underlying35 rfl (T.i35 _) ?_)
            | (go_at_call 20; (with_reducible refine (RN.out _).mono ?_); rintro e w8 ⟨g, rfl, O8, hb8⟩; have A8 := Lib.hid (bkBelow A7.out hb8); have C8 := Lib.hid (bkBelow C7.out hb8); have H8 := Lib.hid (bkLt C8.out); have B8 := bdT B7 B7.size hb8; have U8 := Lib.hid (heap_alloc_new w8 (Obj.cells #[iv 0, iv 0, iv 0, iv 0, iv 0, iv 0, iv 0, iv 0, iv 0, iv 0, iv 0, iv 0, iv 0, iv 0, iv 0, iv 0, iv 0, iv 0, iv 0, iv 0, iv 0, iv 0, iv 0, iv 0] 35)); clear A7 C7 X7 P7 f2)
            | (refine wpList_store_row rfl 35 (.tmp 12) (.tmp 87) rfl (w8.heap.size) q.cs rfl rfl 35 _ U8.out (T.i35 _) (T.sz T.zero _) (T.one _) ?_; have A9 := Lib.hid ((setRow_other _ (w8.heap.size) (w2.heap.size) q.cs (by have := bkLt A8.out; omega)).trans (bkAlloc A8.out (Obj.cells #[iv 0, iv 0, iv 0, iv 0, iv 0, iv 0, iv 0, iv 0, iv 0, iv 0, iv 0, iv 0, iv 0, iv 0, iv 0, iv 0, iv 0, iv 0, iv 0, iv 0, iv 0, iv 0, iv 0, iv 0] 35))); have C9 := Lib.hid ((setRow_other _ (w8.heap.size) (w2.heap.size + 1) q.cs (by have := bkLt C8.out; omega)).trans (bkAlloc C8.out (Obj.cells #[iv 0, iv 0, iv 0, iv 0, iv 0, iv 0, iv 0, iv 0, iv 0, iv 0, iv 0, iv 0, iv 0, iv 0, iv 0, iv 0, iv 0, iv 0, iv 0, iv 0, iv 0, iv 0, iv 0, iv 0] 35))); have U9 := Lib.hid (setRow_heap _ _ _ q.cs _ _ U8.out); have B9 := below_setRow (B8.alloc B8.size (Obj.cells #[iv 0, iv 0, iv 0, iv 0, iv 0, iv 0, iv 0, iv 0, iv 0, iv 0, iv 0, iv 0, iv 0, iv 0, iv 0, iv 0, iv 0, iv 0, iv 0, iv 0, iv 0, iv 0, iv 0, iv 0] 35)) (g := w8.heap.size) B8.size q.cs; have O9 := ownFar (ownBelow O8 ((Below.refl w8.heap.size w8).alloc (Nat.le_refl _) (Obj.cells #[iv 0, iv 0, iv 0, iv 0, iv 0, iv 0, iv 0, iv 0, iv 0, iv 0, iv 0, iv 0, iv 0, iv 0, iv 0, iv 0, iv 0, iv 0, iv 0, iv 0, iv 0, iv 0, iv 0, iv 0] 35))) w8.heap.size (by have := ownFarA O8; omega) q.cs; clear A8 C8 U8 O8))
          go_upto_region 20 with (first
            | (refine wpList_load_row rfl 35 (.tmp 4) rfl (w2.heap.size + 1) rfl 35 _ (0, 0) _ C9.out Try.underlying35 rfl (T.i35 _) ?_)
            | (go_at_call 22; (with_reducible refine (RA.out _).mono ?_); rintro e w10 ⟨h, rfl, Q10, hb10⟩; have A10 := Lib.hid (bkBelow A9.out hb10); have C10 := Lib.hid (bkBelow C9.out hb10); have H10 := Lib.hid (bkLt C10.out); have U10 := Lib.hid (bkBelow U9.out hb10); have B10 := bdT B9 B9.size hb10; have O10 := ownBelow O9 hb10; have V10 := Lib.hid (heap_alloc_new w10 (Obj.cells #[iv 0, iv 0, iv 0, iv 0, iv 0, iv 0, iv 0, iv 0, iv 0, iv 0, iv 0, iv 0, iv 0, iv 0, iv 0, iv 0, iv 0, iv 0, iv 0, iv 0, iv 0, iv 0, iv 0, iv 0] 35)); clear A9 C9 U9 O9)
            | (refine wpList_store_row rfl 35 (.tmp 14) (.tmp 94) rfl (w10.heap.size) q.cs rfl rfl 35 _ V10.out (T.i35 _) (T.sz T.zero _) (T.one _) ?_; have A11 := Lib.hid ((setRow_other _ (w10.heap.size) (w2.heap.size) q.cs (by have := bkLt A10.out; omega)).trans (bkAlloc A10.out (Obj.cells #[iv 0, iv 0, iv 0, iv 0, iv 0, iv 0, iv 0, iv 0, iv 0, iv 0, iv 0, iv 0, iv 0, iv 0, iv 0, iv 0, iv 0, iv 0, iv 0, iv 0, iv 0, iv 0, iv 0, iv 0] 35))); have C11 := Lib.hid ((setRow_other _ (w10.heap.size) (w2.heap.size + 1) q.cs (by have := bkLt C10.out; omega)).trans (bkAlloc C10.out (Obj.cells #[iv 0, iv 0, iv 0, iv 0, iv 0, iv 0, iv 0, iv 0, iv 0, iv 0, iv 0, iv 0, iv 0, iv 0, iv 0, iv 0, iv 0, iv 0, iv 0, iv 0, iv 0, iv 0, iv 0, iv 0] 35))); have U11 := Lib.hid ((setRow_other _ (w10.heap.size) (w8.heap.size) q.cs (by have := bkLt U10.out; omega)).trans (bkAlloc U10.out (Obj.cells #[iv 0, iv 0, iv 0, iv 0, iv 0, iv 0, iv 0, iv 0, iv 0, iv 0, iv 0, iv 0, iv 0, iv 0, iv 0, iv 0, iv 0, iv 0, iv 0, iv 0, iv 0, iv 0, iv 0, iv 0] 35))); have V11 := Lib.hid (setRow_heap _ _ _ q.cs _ _ V10.out); have B11 := below_setRow (B10.alloc B10.size (Obj.cells #[iv 0, iv 0, iv 0, iv 0, iv 0, iv 0, iv 0, iv 0, iv 0, iv 0, iv 0, iv 0, iv 0, iv 0, iv 0, iv 0, iv 0, iv 0, iv 0, iv 0, iv 0, iv 0, iv 0, iv 0] 35)) (g := w10.heap.size) B10.size q.cs; have O11 := ownFar (ownBelow O10 ((Below.refl w10.heap.size w10).alloc (Nat.le_refl _) (Obj.cells #[iv 0, iv 0, iv 0, iv 0, iv 0, iv 0, iv 0, iv 0, iv 0, iv 0, iv 0, iv 0, iv 0, iv 0, iv 0, iv 0, iv 0, iv 0, iv 0, iv 0, iv 0, iv 0, iv 0, iv 0] 35))) w10.heap.size (by have := ownFarA O10; omega) q.cs; have Q11 := ownFar (ownBelow Q10 ((Below.refl w10.heap.size w10).alloc (Nat.le_refl _) (Obj.cells #[iv 0, iv 0, iv 0, iv 0, iv 0, iv 0, iv 0, iv 0, iv 0, iv 0, iv 0, iv 0, iv 0, iv 0, iv 0, iv 0, iv 0, iv 0, iv 0, iv 0, iv 0, iv 0, iv 0, iv 0] 35))) w10.heap.size (by have := ownFarA Q10; omega) q.cs; have E11 := Lib.hid (cellsGet O11); have D11 := Lib.hid (cellsGet Q11); clear A10 C10 U10 V10 O10 Q10 O11 Q11))
          go_upto_region 22 with (first
            | (refine gdOn (by rfl) ?_; refine wpList_load_row rfl 35 (.tmp 12) rfl (w8.heap.size) rfl 35 _ (0, 0) _ U11.out Try.underlying35 rfl (T.i35 _) ?_)
            | (refine gdOn (by rfl) ?_; refine wpList_load_row rfl 35 (.tmp 14) rfl (w10.heap.size) rfl 35 _ (0, 0) _ V11.out Try.underlying35 rfl (T.i35 _) ?_)
            | (go_at_call 14; (with_reducible refine (equal_any g h N N N xs hN3 _ E11.out D11.out).mono ?_); rintro e w12 ⟨rfl, md, rfl⟩))
          refine start_ (n := 4) (S := fun w' => w'.heap[w8.heap.size]? = some (.cells q.cs 35 (0, 0)) ∧ w'.heap[w10.heap.size]? = some (.cells q.cs 35 (0, 0)) ∧ w'.heap[w2.heap.size + 1]? = some (.cells p.cs 35 (0, 0)) ∧ Below w.heap.size w w') (ds := [3]) #[false, false, false, false] (by kernel_rfl) rfl rfl ⟨U11.out, V11.out, C11.out, (bdN B11 md).drew⟩ (fun hHeld => ?_)
          refine take_ (i := 0) (N := some 108) (v := ?_) (a' := ?_) #[true, false, false, false] rfl rfl (by kernel_rfl) (fun _ _ _ h => h) (Or.inl ⟨by rfl, ?_⟩) hHeld ?_ ?_
          rotate_left
          · rintro w' ⟨s0, s1, s2, s3⟩
            refine exec_load_row 35 (.tmp 12) ?_ (w8.heap.size) ?_ 35 _ _ _ s0 Try.underlying35 rfl (T.i35 _) <;> rfl
          rotate_left
          · simp only [Act.put, List.setIfInBounds_toArray, List.set_cons_zero, List.set_cons_succ, i64_w, i32_w]
            rfl
          refine take_ (i := 1) (N := some 109) (v := ?_) (a' := ?_) #[true, true, false, false] rfl rfl (by kernel_rfl) (fun _ _ _ h => h) (Or.inl ⟨by rfl, ?_⟩) hHeld ?_ ?_
          rotate_left
          · rintro w' ⟨s0, s1, s2, s3⟩
            refine exec_load_row 35 (.tmp 14) ?_ (w10.heap.size) ?_ 35 _ _ _ s1 Try.underlying35 rfl (T.i35 _) <;> rfl
          rotate_left
          · simp only [Act.put, List.setIfInBounds_toArray, List.set_cons_zero, List.set_cons_succ, i64_w, i32_w]
            rfl
          refine one_ (i := 2) (N := none) #[true, true, true, false] rfl rfl (by kernel_rfl) (by decide) (fun K hK => ?_)
          obtain ⟨U0, V0, C0, B0⟩ := hHeld
          refine skip_ (w1 := ?_) (by rfl) rfl ?_ ?_
          rotate_left
          · refine exec_store_row 35 (.tmp 3) (.tmp 108) ?_ (w2.heap.size) q.cs ?_ ?_ 35 _ (bkDr A11.out md) (T.i35 _) (T.sz T.zero _) (T.one _) <;> rfl
          have A14 := Lib.hid (setRow_heap _ _ _ q.cs _ _ (bkDr A11.out md))
          refine hK.out _ _ ⟨(setRow_other _ w2.heap.size w8.heap.size q.cs (by have := H8.out; omega)).trans U0, (setRow_other _ w2.heap.size w10.heap.size q.cs (by have := H10.out; omega)).trans V0, (setRow_other _ w2.heap.size (w2.heap.size + 1) q.cs (by omega)).trans C0, below_setRow B0 (g := w2.heap.size) B2.size q.cs⟩ (fun hHeld => ?_)
          clear hK K
          refine last_ (i := 3) (N := none) #[true, true, true, true] rfl rfl (by kernel_rfl) (by decide) (fun K hK => ?_)
          obtain ⟨U15, V15, C15, B15⟩ := hHeld
          refine skip_ (w1 := ?_) (by rfl) rfl ?_ ?_
          rotate_left
          · refine exec_store_row 35 (.tmp 4) (.tmp 109) ?_ (w2.heap.size + 1) q.cs ?_ ?_ 35 _ C15 (T.i35 _) (T.sz T.zero _) (T.one _) <;> rfl
          refine hK.out _ _ ?_
          clear hK K
          refine done_ (by kernel_rfl) ?_
          go_wp2
          exact ⟨⟨k + 1, by omega, by go_num, ⟨q, hq, (setRow_other _ (w2.heap.size + 1) w2.heap.size q.cs (by omega)).trans A14.out, setRow_heap _ _ _ q.cs _ _ C15⟩, below_setRow B15 (g := w2.heap.size + 1) (by have := B2.size; omega) q.cs⟩, by simp [intOf]; omega⟩
        · obtain ⟨p, q, N, xs, hN3, hq, WF', WR', RN', RA'⟩ := act_facts t ht r v s g0 g1 g2 g3 (by omega) (by omega)
          have WF := Lib.hid WF'
          have WR := Lib.hid WR'
          have RN := Lib.hid RN'
          have RA := Lib.hid RA'
          have hep := fun W => eqT p W
          have her := fun W => eqT q W
          have HL := Lib.hid (bkLt HC.out)
          have n1 : (s < 400) = True := by simp; omega
          have n2 : (0 < s) = True := by simp; omega
          clear WF' WR' RN' RA'
          go_upto_region 10 with (first
            | (refine wpList_load_row rfl 35 (.tmp 3) rfl (w2.heap.size) rfl 35 _ (0, 0) _ (bkAlloc HA.out _) Try.underlying35 rfl (T.i35 _) ?_)
            | (go_at_call 27; (with_reducible refine (WF.out _).mono ?_); rintro e w4 ⟨rfl, hb4⟩; have A4 := Lib.hid (bkBelow (bkAlloc HA.out _) hb4); have C4 := Lib.hid (bkBelow (bkAlloc HC.out _) hb4); have B4 := bdT (hB.alloc hB.size _) (hB.alloc hB.size _).size hb4; have X4 := Lib.hid (bkBelow (heap_alloc_new wr (Obj.cells #[iv r, iv v, iv s] 54)) hb4); have HP4 := Lib.hid (bkLt C4.out); have P4 := Lib.hid (heap_alloc_new w4 (Obj.cells #[iv 0, iv 0, iv 0, iv 0, iv 0, iv 0, iv 0, iv 0, iv 0, iv 0, iv 0, iv 0, iv 0, iv 0, iv 0, iv 0, iv 0, iv 0, iv 0, iv 0, iv 0, iv 0, iv 0, iv 0] 35)); clear HA HC)
            | (refine wpList_store_row rfl 35 (.tmp 7) (.tmp 36) rfl (w4.heap.size) p.cs rfl rfl 35 _ P4.out (T.i35 _) (T.sz T.zero _) (T.one _) ?_; have A5 := Lib.hid ((setRow_other _ (w4.heap.size) (w2.heap.size) p.cs (by have := bkLt A4.out; omega)).trans (bkAlloc A4.out (Obj.cells #[iv 0, iv 0, iv 0, iv 0, iv 0, iv 0, iv 0, iv 0, iv 0, iv 0, iv 0, iv 0, iv 0, iv 0, iv 0, iv 0, iv 0, iv 0, iv 0, iv 0, iv 0, iv 0, iv 0, iv 0] 35))); have C5 := Lib.hid ((setRow_other _ (w4.heap.size) (w2.heap.size + 1) p.cs (by have := bkLt C4.out; omega)).trans (bkAlloc C4.out (Obj.cells #[iv 0, iv 0, iv 0, iv 0, iv 0, iv 0, iv 0, iv 0, iv 0, iv 0, iv 0, iv 0, iv 0, iv 0, iv 0, iv 0, iv 0, iv 0, iv 0, iv 0, iv 0, iv 0, iv 0, iv 0] 35))); have X5 := Lib.hid ((setRow_other _ (w4.heap.size) (wr.heap.size) p.cs (by have := bkLt X4.out; omega)).trans (bkAlloc X4.out (Obj.cells #[iv 0, iv 0, iv 0, iv 0, iv 0, iv 0, iv 0, iv 0, iv 0, iv 0, iv 0, iv 0, iv 0, iv 0, iv 0, iv 0, iv 0, iv 0, iv 0, iv 0, iv 0, iv 0, iv 0, iv 0] 35))); have P5 := Lib.hid (setRow_heap _ _ _ p.cs _ _ P4.out); have B5 := below_setRow (B4.alloc B4.size (Obj.cells #[iv 0, iv 0, iv 0, iv 0, iv 0, iv 0, iv 0, iv 0, iv 0, iv 0, iv 0, iv 0, iv 0, iv 0, iv 0, iv 0, iv 0, iv 0, iv 0, iv 0, iv 0, iv 0, iv 0, iv 0] 35)) (g := w4.heap.size) B4.size p.cs; have f0 := (bkCell X5.out 0).trans (show _ = some (iv r) from rfl); have f1 := (bkCell X5.out 1).trans (show _ = some (iv v) from rfl); clear A4 C4 P4 X4))
          go_upto_region 14 with (fail)
          go_upto_region 15 with (first
            | (refine wpList_load_row rfl 35 (.tmp 4) rfl (w2.heap.size + 1) rfl 35 _ (0, 0) _ C5.out Try.underlying35 rfl (T.i35 _) ?_)
            | (go_at_call 31; (with_reducible refine (WR.out _).mono ?_); rintro e w6 ⟨rfl, hb6⟩; have A6 := Lib.hid (bkBelow A5.out hb6); have C6 := Lib.hid (bkBelow C5.out hb6); have X6 := Lib.hid (bkBelow X5.out hb6); have P6 := Lib.hid (bkBelow P5.out hb6); have B6 := bdT B5 B5.size hb6; clear A5 C5 X5 P5 f0 f1)
            | (refine wpList_store_row rfl 35 (.tmp 4) (.tmp 70) rfl (w2.heap.size + 1) p.cs rfl rfl 35 _ C6.out (T.i35 _) (T.sz T.zero _) (T.one _) ?_; have A7 := Lib.hid ((setRow_other _ (w2.heap.size + 1) (w2.heap.size) p.cs (by omega)).trans A6.out); have X7 := Lib.hid ((setRow_other _ (w2.heap.size + 1) (wr.heap.size) p.cs (by have := HL.out; omega)).trans X6.out); have P7 := Lib.hid ((setRow_other _ (w2.heap.size + 1) (w4.heap.size) p.cs (by have := bkLt P6.out; have := HP4.out; omega)).trans P6.out); have C7 := Lib.hid (setRow_heap _ _ _ p.cs _ _ C6.out); have B7 := below_setRow B6 (g := w2.heap.size + 1) (by have := B2.size; omega) p.cs; have f2 := (bkCell X7.out 2).trans (show _ = some (iv s) from rfl); clear A6 C6 P6 X6))
          go_upto_region 17 with (first
            | (refine gdOn (by rfl) ?_; refine wpList_load_row rfl 35 (.tmp 7) rfl (w4.heap.size) rfl 35 _ (0, 0) _ P7.out Try.underlying35 rfl (T.i35 _) ?_)
            | (refine gdOn (by rfl) ?_; refine wpList_load_row rfl 35 (.tmp 4) rfl (w2.heap.size + 1) rfl 35 _ (0, 0) _ C7.out Try.underlying35 rfl (T.i35 _) ?_))
          go_upto_region 18 with (fail)
          go_upto_region 19 with (first
            | (refine wpList_load_row rfl 35 (.tmp 7) rfl (w4.heap.size) rfl 35 _ (0, 0) _ P7.out Try.underlying35 rfl (T.i35 _) ?_)
            | (go_at_call 20; (with_reducible refine (RN.out _).mono ?_); rintro e w8 ⟨g, rfl, O8, hb8⟩; have A8 := Lib.hid (bkBelow A7.out hb8); have C8 := Lib.hid (bkBelow C7.out hb8); have H8 := Lib.hid (bkLt C8.out); have B8 := bdT B7 B7.size hb8; have U8 := Lib.hid (heap_alloc_new w8 (Obj.cells #[iv 0, iv 0, iv 0, iv 0, iv 0, iv 0, iv 0, iv 0, iv 0, iv 0, iv 0, iv 0, iv 0, iv 0, iv 0, iv 0, iv 0, iv 0, iv 0, iv 0, iv 0, iv 0, iv 0, iv 0] 35)); clear A7 C7 X7 P7 f2)
            | (refine wpList_store_row rfl 35 (.tmp 12) (.tmp 87) rfl (w8.heap.size) q.cs rfl rfl 35 _ U8.out (T.i35 _) (T.sz T.zero _) (T.one _) ?_; have A9 := Lib.hid ((setRow_other _ (w8.heap.size) (w2.heap.size) q.cs (by have := bkLt A8.out; omega)).trans (bkAlloc A8.out (Obj.cells #[iv 0, iv 0, iv 0, iv 0, iv 0, iv 0, iv 0, iv 0, iv 0, iv 0, iv 0, iv 0, iv 0, iv 0, iv 0, iv 0, iv 0, iv 0, iv 0, iv 0, iv 0, iv 0, iv 0, iv 0] 35))); have C9 := Lib.hid ((setRow_other _ (w8.heap.size) (w2.heap.size + 1) q.cs (by have := bkLt C8.out; omega)).trans (bkAlloc C8.out (Obj.cells #[iv 0, iv 0, iv 0, iv 0, iv 0, iv 0, iv 0, iv 0, iv 0, iv 0, iv 0, iv 0, iv 0, iv 0, iv 0, iv 0, iv 0, iv 0, iv 0, iv 0, iv 0, iv 0, iv 0, iv 0] 35))); have U9 := Lib.hid (setRow_heap _ _ _ q.cs _ _ U8.out); have B9 := below_setRow (B8.alloc B8.size (Obj.cells #[iv 0, iv 0, iv 0, iv 0, iv 0, iv 0, iv 0, iv 0, iv 0, iv 0, iv 0, iv 0, iv 0, iv 0, iv 0, iv 0, iv 0, iv 0, iv 0, iv 0, iv 0, iv 0, iv 0, iv 0] 35)) (g := w8.heap.size) B8.size q.cs; have O9 := ownFar (ownBelow O8 ((Below.refl w8.heap.size w8).alloc (Nat.le_refl _) (Obj.cells #[iv 0, iv 0, iv 0, iv 0, iv 0, iv 0, iv 0, iv 0, iv 0, iv 0, iv 0, iv 0, iv 0, iv 0, iv 0, iv 0, iv 0, iv 0, iv 0, iv 0, iv 0, iv 0, iv 0, iv 0] 35))) w8.heap.size (by have := ownFarA O8; omega) q.cs; clear A8 C8 U8 O8))
          go_upto_region 20 with (first
            | (refine wpList_load_row rfl 35 (.tmp 4) rfl (w2.heap.size + 1) rfl 35 _ (0, 0) _ C9.out Try.underlying35 rfl (T.i35 _) ?_)
            | (go_at_call 22; (with_reducible refine (RA.out _).mono ?_); rintro e w10 ⟨h, rfl, Q10, hb10⟩; have A10 := Lib.hid (bkBelow A9.out hb10); have C10 := Lib.hid (bkBelow C9.out hb10); have H10 := Lib.hid (bkLt C10.out); have U10 := Lib.hid (bkBelow U9.out hb10); have B10 := bdT B9 B9.size hb10; have O10 := ownBelow O9 hb10; have V10 := Lib.hid (heap_alloc_new w10 (Obj.cells #[iv 0, iv 0, iv 0, iv 0, iv 0, iv 0, iv 0, iv 0, iv 0, iv 0, iv 0, iv 0, iv 0, iv 0, iv 0, iv 0, iv 0, iv 0, iv 0, iv 0, iv 0, iv 0, iv 0, iv 0] 35)); clear A9 C9 U9 O9)
            | (refine wpList_store_row rfl 35 (.tmp 14) (.tmp 94) rfl (w10.heap.size) q.cs rfl rfl 35 _ V10.out (T.i35 _) (T.sz T.zero _) (T.one _) ?_; have A11 := Lib.hid ((setRow_other _ (w10.heap.size) (w2.heap.size) q.cs (by have := bkLt A10.out; omega)).trans (bkAlloc A10.out (Obj.cells #[iv 0, iv 0, iv 0, iv 0, iv 0, iv 0, iv 0, iv 0, iv 0, iv 0, iv 0, iv 0, iv 0, iv 0, iv 0, iv 0, iv 0, iv 0, iv 0, iv 0, iv 0, iv 0, iv 0, iv 0] 35))); have C11 := Lib.hid ((setRow_other _ (w10.heap.size) (w2.heap.size + 1) q.cs (by have := bkLt C10.out; omega)).trans (bkAlloc C10.out (Obj.cells #[iv 0, iv 0, iv 0, iv 0, iv 0, iv 0, iv 0, iv 0, iv 0, iv 0, iv 0, iv 0, iv 0, iv 0, iv 0, iv 0, iv 0, iv 0, iv 0, iv 0, iv 0, iv 0, iv 0, iv 0] 35))); have U11 := Lib.hid ((setRow_other _ (w10.heap.size) (w8.heap.size) q.cs (by have := bkLt U10.out; omega)).trans (bkAlloc U10.out (Obj.cells #[iv 0, iv 0, iv 0, iv 0, iv 0, iv 0, iv 0, iv 0, iv 0, iv 0, iv 0, iv 0, iv 0, iv 0, iv 0, iv 0, iv 0, iv 0, iv 0, iv 0, iv 0, iv 0, iv 0, iv 0] 35))); have V11 := Lib.hid (setRow_heap _ _ _ q.cs _ _ V10.out); have B11 := below_setRow (B10.alloc B10.size (Obj.cells #[iv 0, iv 0, iv 0, iv 0, iv 0, iv 0, iv 0, iv 0, iv 0, iv 0, iv 0, iv 0, iv 0, iv 0, iv 0, iv 0, iv 0, iv 0, iv 0, iv 0, iv 0, iv 0, iv 0, iv 0] 35)) (g := w10.heap.size) B10.size q.cs; have O11 := ownFar (ownBelow O10 ((Below.refl w10.heap.size w10).alloc (Nat.le_refl _) (Obj.cells #[iv 0, iv 0, iv 0, iv 0, iv 0, iv 0, iv 0, iv 0, iv 0, iv 0, iv 0, iv 0, iv 0, iv 0, iv 0, iv 0, iv 0, iv 0, iv 0, iv 0, iv 0, iv 0, iv 0, iv 0] 35))) w10.heap.size (by have := ownFarA O10; omega) q.cs; have Q11 := ownFar (ownBelow Q10 ((Below.refl w10.heap.size w10).alloc (Nat.le_refl _) (Obj.cells #[iv 0, iv 0, iv 0, iv 0, iv 0, iv 0, iv 0, iv 0, iv 0, iv 0, iv 0, iv 0, iv 0, iv 0, iv 0, iv 0, iv 0, iv 0, iv 0, iv 0, iv 0, iv 0, iv 0, iv 0] 35))) w10.heap.size (by have := ownFarA Q10; omega) q.cs; have E11 := Lib.hid (cellsGet O11); have D11 := Lib.hid (cellsGet Q11); clear A10 C10 U10 V10 O10 Q10 O11 Q11))
          go_upto_region 22 with (first
            | (refine gdOn (by rfl) ?_; refine wpList_load_row rfl 35 (.tmp 12) rfl (w8.heap.size) rfl 35 _ (0, 0) _ U11.out Try.underlying35 rfl (T.i35 _) ?_)
            | (refine gdOn (by rfl) ?_; refine wpList_load_row rfl 35 (.tmp 14) rfl (w10.heap.size) rfl 35 _ (0, 0) _ V11.out Try.underlying35 rfl (T.i35 _) ?_)
            | (go_at_call 14; (with_reducible refine (equal_any g h N N N xs hN3 _ E11.out D11.out).mono ?_); rintro e w12 ⟨rfl, md, rfl⟩))
          refine start_ (n := 4) (S := fun w' => w'.heap[w8.heap.size]? = some (.cells q.cs 35 (0, 0)) ∧ w'.heap[w10.heap.size]? = some (.cells q.cs 35 (0, 0)) ∧ w'.heap[w2.heap.size + 1]? = some (.cells p.cs 35 (0, 0)) ∧ Below w.heap.size w w') (ds := [3]) #[false, false, false, false] (by kernel_rfl) rfl rfl ⟨U11.out, V11.out, C11.out, (bdN B11 md).drew⟩ (fun hHeld => ?_)
          refine take_ (i := 0) (N := some 108) (v := ?_) (a' := ?_) #[true, false, false, false] rfl rfl (by kernel_rfl) (fun _ _ _ h => h) (Or.inl ⟨by rfl, ?_⟩) hHeld ?_ ?_
          rotate_left
          · rintro w' ⟨s0, s1, s2, s3⟩
            refine exec_load_row 35 (.tmp 12) ?_ (w8.heap.size) ?_ 35 _ _ _ s0 Try.underlying35 rfl (T.i35 _) <;> rfl
          rotate_left
          · simp only [Act.put, List.setIfInBounds_toArray, List.set_cons_zero, List.set_cons_succ, i64_w, i32_w]
            rfl
          refine take_ (i := 1) (N := some 109) (v := ?_) (a' := ?_) #[true, true, false, false] rfl rfl (by kernel_rfl) (fun _ _ _ h => h) (Or.inl ⟨by rfl, ?_⟩) hHeld ?_ ?_
          rotate_left
          · rintro w' ⟨s0, s1, s2, s3⟩
            refine exec_load_row 35 (.tmp 14) ?_ (w10.heap.size) ?_ 35 _ _ _ s1 Try.underlying35 rfl (T.i35 _) <;> rfl
          rotate_left
          · simp only [Act.put, List.setIfInBounds_toArray, List.set_cons_zero, List.set_cons_succ, i64_w, i32_w]
            rfl
          refine one_ (i := 2) (N := none) #[true, true, true, false] rfl rfl (by kernel_rfl) (by decide) (fun K hK => ?_)
          obtain ⟨U0, V0, C0, B0⟩ := hHeld
          refine skip_ (w1 := ?_) (by rfl) rfl ?_ ?_
          rotate_left
          · refine exec_store_row 35 (.tmp 3) (.tmp 108) ?_ (w2.heap.size) q.cs ?_ ?_ 35 _ (bkDr A11.out md) (T.i35 _) (T.sz T.zero _) (T.one _) <;> rfl
          have A14 := Lib.hid (setRow_heap _ _ _ q.cs _ _ (bkDr A11.out md))
          refine hK.out _ _ ⟨(setRow_other _ w2.heap.size w8.heap.size q.cs (by have := H8.out; omega)).trans U0, (setRow_other _ w2.heap.size w10.heap.size q.cs (by have := H10.out; omega)).trans V0, (setRow_other _ w2.heap.size (w2.heap.size + 1) q.cs (by omega)).trans C0, below_setRow B0 (g := w2.heap.size) B2.size q.cs⟩ (fun hHeld => ?_)
          clear hK K
          refine last_ (i := 3) (N := none) #[true, true, true, true] rfl rfl (by kernel_rfl) (by decide) (fun K hK => ?_)
          obtain ⟨U15, V15, C15, B15⟩ := hHeld
          refine skip_ (w1 := ?_) (by rfl) rfl ?_ ?_
          rotate_left
          · refine exec_store_row 35 (.tmp 4) (.tmp 109) ?_ (w2.heap.size + 1) q.cs ?_ ?_ 35 _ C15 (T.i35 _) (T.sz T.zero _) (T.one _) <;> rfl
          refine hK.out _ _ ?_
          clear hK K
          refine done_ (by kernel_rfl) ?_
          go_wp2
          exact ⟨⟨k + 1, by omega, by go_num, ⟨q, hq, (setRow_other _ (w2.heap.size + 1) w2.heap.size q.cs (by omega)).trans A14.out, setRow_heap _ _ _ q.cs _ _ C15⟩, below_setRow B15 (g := w2.heap.size + 1) (by have := B2.size; omega) q.cs⟩, by simp [intOf]; omega⟩
        · obtain ⟨p, q, N, xs, hN3, hq, WF', WR', RN', RA'⟩ := act_facts t ht r v (400 : Int) g0 g1 g2 g3 (by omega) (by omega)
          have WF := Lib.hid WF'
          have WR := Lib.hid WR'
          have RN := Lib.hid RN'
          have RA := Lib.hid RA'
          have hep := fun W => eqT p W
          have her := fun W => eqT q W
          have HL := Lib.hid (bkLt HC.out)
          have n1 : (s < 400) = False := by simp; omega
          have n2 : (0 < s) = True := by simp; omega
          clear WF' WR' RN' RA'
          go_upto_region 10 with (first
            | (refine wpList_load_row rfl 35 (.tmp 3) rfl (w2.heap.size) rfl 35 _ (0, 0) _ (bkAlloc HA.out _) Try.underlying35 rfl (T.i35 _) ?_)
            | (go_at_call 27; (with_reducible refine (WF.out _).mono ?_); rintro e w4 ⟨rfl, hb4⟩; have A4 := Lib.hid (bkBelow (bkAlloc HA.out _) hb4); have C4 := Lib.hid (bkBelow (bkAlloc HC.out _) hb4); have B4 := bdT (hB.alloc hB.size _) (hB.alloc hB.size _).size hb4; have X4 := Lib.hid (bkBelow (heap_alloc_new wr (Obj.cells #[iv r, iv v, iv s] 54)) hb4); have HP4 := Lib.hid (bkLt C4.out); have P4 := Lib.hid (heap_alloc_new w4 (Obj.cells #[iv 0, iv 0, iv 0, iv 0, iv 0, iv 0, iv 0, iv 0, iv 0, iv 0, iv 0, iv 0, iv 0, iv 0, iv 0, iv 0, iv 0, iv 0, iv 0, iv 0, iv 0, iv 0, iv 0, iv 0] 35)); clear HA HC)
            | (refine wpList_store_row rfl 35 (.tmp 7) (.tmp 36) rfl (w4.heap.size) p.cs rfl rfl 35 _ P4.out (T.i35 _) (T.sz T.zero _) (T.one _) ?_; have A5 := Lib.hid ((setRow_other _ (w4.heap.size) (w2.heap.size) p.cs (by have := bkLt A4.out; omega)).trans (bkAlloc A4.out (Obj.cells #[iv 0, iv 0, iv 0, iv 0, iv 0, iv 0, iv 0, iv 0, iv 0, iv 0, iv 0, iv 0, iv 0, iv 0, iv 0, iv 0, iv 0, iv 0, iv 0, iv 0, iv 0, iv 0, iv 0, iv 0] 35))); have C5 := Lib.hid ((setRow_other _ (w4.heap.size) (w2.heap.size + 1) p.cs (by have := bkLt C4.out; omega)).trans (bkAlloc C4.out (Obj.cells #[iv 0, iv 0, iv 0, iv 0, iv 0, iv 0, iv 0, iv 0, iv 0, iv 0, iv 0, iv 0, iv 0, iv 0, iv 0, iv 0, iv 0, iv 0, iv 0, iv 0, iv 0, iv 0, iv 0, iv 0] 35))); have X5 := Lib.hid ((setRow_other _ (w4.heap.size) (wr.heap.size) p.cs (by have := bkLt X4.out; omega)).trans (bkAlloc X4.out (Obj.cells #[iv 0, iv 0, iv 0, iv 0, iv 0, iv 0, iv 0, iv 0, iv 0, iv 0, iv 0, iv 0, iv 0, iv 0, iv 0, iv 0, iv 0, iv 0, iv 0, iv 0, iv 0, iv 0, iv 0, iv 0] 35))); have P5 := Lib.hid (setRow_heap _ _ _ p.cs _ _ P4.out); have B5 := below_setRow (B4.alloc B4.size (Obj.cells #[iv 0, iv 0, iv 0, iv 0, iv 0, iv 0, iv 0, iv 0, iv 0, iv 0, iv 0, iv 0, iv 0, iv 0, iv 0, iv 0, iv 0, iv 0, iv 0, iv 0, iv 0, iv 0, iv 0, iv 0] 35)) (g := w4.heap.size) B4.size p.cs; have f0 := (bkCell X5.out 0).trans (show _ = some (iv r) from rfl); have f1 := (bkCell X5.out 1).trans (show _ = some (iv v) from rfl); clear A4 C4 P4 X4))
          go_upto_region 14 with (fail)
          go_upto_region 15 with (first
            | (refine wpList_load_row rfl 35 (.tmp 4) rfl (w2.heap.size + 1) rfl 35 _ (0, 0) _ C5.out Try.underlying35 rfl (T.i35 _) ?_)
            | (go_at_call 31; (with_reducible refine (WR.out _).mono ?_); rintro e w6 ⟨rfl, hb6⟩; have A6 := Lib.hid (bkBelow A5.out hb6); have C6 := Lib.hid (bkBelow C5.out hb6); have X6 := Lib.hid (bkBelow X5.out hb6); have P6 := Lib.hid (bkBelow P5.out hb6); have B6 := bdT B5 B5.size hb6; clear A5 C5 X5 P5 f0 f1)
            | (refine wpList_store_row rfl 35 (.tmp 4) (.tmp 70) rfl (w2.heap.size + 1) p.cs rfl rfl 35 _ C6.out (T.i35 _) (T.sz T.zero _) (T.one _) ?_; have A7 := Lib.hid ((setRow_other _ (w2.heap.size + 1) (w2.heap.size) p.cs (by omega)).trans A6.out); have X7 := Lib.hid ((setRow_other _ (w2.heap.size + 1) (wr.heap.size) p.cs (by have := HL.out; omega)).trans X6.out); have P7 := Lib.hid ((setRow_other _ (w2.heap.size + 1) (w4.heap.size) p.cs (by have := bkLt P6.out; have := HP4.out; omega)).trans P6.out); have C7 := Lib.hid (setRow_heap _ _ _ p.cs _ _ C6.out); have B7 := below_setRow B6 (g := w2.heap.size + 1) (by have := B2.size; omega) p.cs; have f2 := (bkCell X7.out 2).trans (show _ = some (iv s) from rfl); clear A6 C6 P6 X6))
          go_upto_region 17 with (first
            | (refine gdOn (by rfl) ?_; refine wpList_load_row rfl 35 (.tmp 7) rfl (w4.heap.size) rfl 35 _ (0, 0) _ P7.out Try.underlying35 rfl (T.i35 _) ?_)
            | (refine gdOn (by rfl) ?_; refine wpList_load_row rfl 35 (.tmp 4) rfl (w2.heap.size + 1) rfl 35 _ (0, 0) _ C7.out Try.underlying35 rfl (T.i35 _) ?_))
          go_upto_region 18 with (fail)
          go_upto_region 19 with (first
            | (refine wpList_load_row rfl 35 (.tmp 7) rfl (w4.heap.size) rfl 35 _ (0, 0) _ P7.out Try.underlying35 rfl (T.i35 _) ?_)
            | (go_at_call 20; (with_reducible refine (RN.out _).mono ?_); rintro e w8 ⟨g, rfl, O8, hb8⟩; have A8 := Lib.hid (bkBelow A7.out hb8); have C8 := Lib.hid (bkBelow C7.out hb8); have H8 := Lib.hid (bkLt C8.out); have B8 := bdT B7 B7.size hb8; have U8 := Lib.hid (heap_alloc_new w8 (Obj.cells #[iv 0, iv 0, iv 0, iv 0, iv 0, iv 0, iv 0, iv 0, iv 0, iv 0, iv 0, iv 0, iv 0, iv 0, iv 0, iv 0, iv 0, iv 0, iv 0, iv 0, iv 0, iv 0, iv 0, iv 0] 35)); clear A7 C7 X7 P7 f2)
            | (refine wpList_store_row rfl 35 (.tmp 12) (.tmp 87) rfl (w8.heap.size) q.cs rfl rfl 35 _ U8.out (T.i35 _) (T.sz T.zero _) (T.one _) ?_; have A9 := Lib.hid ((setRow_other _ (w8.heap.size) (w2.heap.size) q.cs (by have := bkLt A8.out; omega)).trans (bkAlloc A8.out (Obj.cells #[iv 0, iv 0, iv 0, iv 0, iv 0, iv 0, iv 0, iv 0, iv 0, iv 0, iv 0, iv 0, iv 0, iv 0, iv 0, iv 0, iv 0, iv 0, iv 0, iv 0, iv 0, iv 0, iv 0, iv 0] 35))); have C9 := Lib.hid ((setRow_other _ (w8.heap.size) (w2.heap.size + 1) q.cs (by have := bkLt C8.out; omega)).trans (bkAlloc C8.out (Obj.cells #[iv 0, iv 0, iv 0, iv 0, iv 0, iv 0, iv 0, iv 0, iv 0, iv 0, iv 0, iv 0, iv 0, iv 0, iv 0, iv 0, iv 0, iv 0, iv 0, iv 0, iv 0, iv 0, iv 0, iv 0] 35))); have U9 := Lib.hid (setRow_heap _ _ _ q.cs _ _ U8.out); have B9 := below_setRow (B8.alloc B8.size (Obj.cells #[iv 0, iv 0, iv 0, iv 0, iv 0, iv 0, iv 0, iv 0, iv 0, iv 0, iv 0, iv 0, iv 0, iv 0, iv 0, iv 0, iv 0, iv 0, iv 0, iv 0, iv 0, iv 0, iv 0, iv 0] 35)) (g := w8.heap.size) B8.size q.cs; have O9 := ownFar (ownBelow O8 ((Below.refl w8.heap.size w8).alloc (Nat.le_refl _) (Obj.cells #[iv 0, iv 0, iv 0, iv 0, iv 0, iv 0, iv 0, iv 0, iv 0, iv 0, iv 0, iv 0, iv 0, iv 0, iv 0, iv 0, iv 0, iv 0, iv 0, iv 0, iv 0, iv 0, iv 0, iv 0] 35))) w8.heap.size (by have := ownFarA O8; omega) q.cs; clear A8 C8 U8 O8))
          go_upto_region 20 with (first
            | (refine wpList_load_row rfl 35 (.tmp 4) rfl (w2.heap.size + 1) rfl 35 _ (0, 0) _ C9.out Try.underlying35 rfl (T.i35 _) ?_)
            | (go_at_call 22; (with_reducible refine (RA.out _).mono ?_); rintro e w10 ⟨h, rfl, Q10, hb10⟩; have A10 := Lib.hid (bkBelow A9.out hb10); have C10 := Lib.hid (bkBelow C9.out hb10); have H10 := Lib.hid (bkLt C10.out); have U10 := Lib.hid (bkBelow U9.out hb10); have B10 := bdT B9 B9.size hb10; have O10 := ownBelow O9 hb10; have V10 := Lib.hid (heap_alloc_new w10 (Obj.cells #[iv 0, iv 0, iv 0, iv 0, iv 0, iv 0, iv 0, iv 0, iv 0, iv 0, iv 0, iv 0, iv 0, iv 0, iv 0, iv 0, iv 0, iv 0, iv 0, iv 0, iv 0, iv 0, iv 0, iv 0] 35)); clear A9 C9 U9 O9)
            | (refine wpList_store_row rfl 35 (.tmp 14) (.tmp 94) rfl (w10.heap.size) q.cs rfl rfl 35 _ V10.out (T.i35 _) (T.sz T.zero _) (T.one _) ?_; have A11 := Lib.hid ((setRow_other _ (w10.heap.size) (w2.heap.size) q.cs (by have := bkLt A10.out; omega)).trans (bkAlloc A10.out (Obj.cells #[iv 0, iv 0, iv 0, iv 0, iv 0, iv 0, iv 0, iv 0, iv 0, iv 0, iv 0, iv 0, iv 0, iv 0, iv 0, iv 0, iv 0, iv 0, iv 0, iv 0, iv 0, iv 0, iv 0, iv 0] 35))); have C11 := Lib.hid ((setRow_other _ (w10.heap.size) (w2.heap.size + 1) q.cs (by have := bkLt C10.out; omega)).trans (bkAlloc C10.out (Obj.cells #[iv 0, iv 0, iv 0, iv 0, iv 0, iv 0, iv 0, iv 0, iv 0, iv 0, iv 0, iv 0, iv 0, iv 0, iv 0, iv 0, iv 0, iv 0, iv 0, iv 0, iv 0, iv 0, iv 0, iv 0] 35))); have U11 := Lib.hid ((setRow_other _ (w10.heap.size) (w8.heap.size) q.cs (by have := bkLt U10.out; omega)).trans (bkAlloc U10.out (Obj.cells #[iv 0, iv 0, iv 0, iv 0, iv 0, iv 0, iv 0, iv 0, iv 0, iv 0, iv 0, iv 0, iv 0, iv 0, iv 0, iv 0, iv 0, iv 0, iv 0, iv 0, iv 0, iv 0, iv 0, iv 0] 35))); have V11 := Lib.hid (setRow_heap _ _ _ q.cs _ _ V10.out); have B11 := below_setRow (B10.alloc B10.size (Obj.cells #[iv 0, iv 0, iv 0, iv 0, iv 0, iv 0, iv 0, iv 0, iv 0, iv 0, iv 0, iv 0, iv 0, iv 0, iv 0, iv 0, iv 0, iv 0, iv 0, iv 0, iv 0, iv 0, iv 0, iv 0] 35)) (g := w10.heap.size) B10.size q.cs; have O11 := ownFar (ownBelow O10 ((Below.refl w10.heap.size w10).alloc (Nat.le_refl _) (Obj.cells #[iv 0, iv 0, iv 0, iv 0, iv 0, iv 0, iv 0, iv 0, iv 0, iv 0, iv 0, iv 0, iv 0, iv 0, iv 0, iv 0, iv 0, iv 0, iv 0, iv 0, iv 0, iv 0, iv 0, iv 0] 35))) w10.heap.size (by have := ownFarA O10; omega) q.cs; have Q11 := ownFar (ownBelow Q10 ((Below.refl w10.heap.size w10).alloc (Nat.le_refl _) (Obj.cells #[iv 0, iv 0, iv 0, iv 0, iv 0, iv 0, iv 0, iv 0, iv 0, iv 0, iv 0, iv 0, iv 0, iv 0, iv 0, iv 0, iv 0, iv 0, iv 0, iv 0, iv 0, iv 0, iv 0, iv 0] 35))) w10.heap.size (by have := ownFarA Q10; omega) q.cs; have E11 := Lib.hid (cellsGet O11); have D11 := Lib.hid (cellsGet Q11); clear A10 C10 U10 V10 O10 Q10 O11 Q11))
          go_upto_region 22 with (first
            | (refine gdOn (by rfl) ?_; refine wpList_load_row rfl 35 (.tmp 12) rfl (w8.heap.size) rfl 35 _ (0, 0) _ U11.out Try.underlying35 rfl (T.i35 _) ?_)
            | (refine gdOn (by rfl) ?_; refine wpList_load_row rfl 35 (.tmp 14) rfl (w10.heap.size) rfl 35 _ (0, 0) _ V11.out Try.underlying35 rfl (T.i35 _) ?_)
            | (go_at_call 14; (with_reducible refine (equal_any g h N N N xs hN3 _ E11.out D11.out).mono ?_); rintro e w12 ⟨rfl, md, rfl⟩))
          refine start_ (n := 4) (S := fun w' => w'.heap[w8.heap.size]? = some (.cells q.cs 35 (0, 0)) ∧ w'.heap[w10.heap.size]? = some (.cells q.cs 35 (0, 0)) ∧ w'.heap[w2.heap.size + 1]? = some (.cells p.cs 35 (0, 0)) ∧ Below w.heap.size w w') (ds := [3]) #[false, false, false, false] (by kernel_rfl) rfl rfl ⟨U11.out, V11.out, C11.out, (bdN B11 md).drew⟩ (fun hHeld => ?_)
          refine take_ (i := 0) (N := some 108) (v := ?_) (a' := ?_) #[true, false, false, false] rfl rfl (by kernel_rfl) (fun _ _ _ h => h) (Or.inl ⟨by rfl, ?_⟩) hHeld ?_ ?_
          rotate_left
          · rintro w' ⟨s0, s1, s2, s3⟩
            refine exec_load_row 35 (.tmp 12) ?_ (w8.heap.size) ?_ 35 _ _ _ s0 Try.underlying35 rfl (T.i35 _) <;> rfl
          rotate_left
          · simp only [Act.put, List.setIfInBounds_toArray, List.set_cons_zero, List.set_cons_succ, i64_w, i32_w]
            rfl
          refine take_ (i := 1) (N := some 109) (v := ?_) (a' := ?_) #[true, true, false, false] rfl rfl (by kernel_rfl) (fun _ _ _ h => h) (Or.inl ⟨by rfl, ?_⟩) hHeld ?_ ?_
          rotate_left
          · rintro w' ⟨s0, s1, s2, s3⟩
            refine exec_load_row 35 (.tmp 14) ?_ (w10.heap.size) ?_ 35 _ _ _ s1 Try.underlying35 rfl (T.i35 _) <;> rfl
          rotate_left
          · simp only [Act.put, List.setIfInBounds_toArray, List.set_cons_zero, List.set_cons_succ, i64_w, i32_w]
            rfl
          refine one_ (i := 2) (N := none) #[true, true, true, false] rfl rfl (by kernel_rfl) (by decide) (fun K hK => ?_)
          obtain ⟨U0, V0, C0, B0⟩ := hHeld
          refine skip_ (w1 := ?_) (by rfl) rfl ?_ ?_
          rotate_left
          · refine exec_store_row 35 (.tmp 3) (.tmp 108) ?_ (w2.heap.size) q.cs ?_ ?_ 35 _ (bkDr A11.out md) (T.i35 _) (T.sz T.zero _) (T.one _) <;> rfl
          have A14 := Lib.hid (setRow_heap _ _ _ q.cs _ _ (bkDr A11.out md))
          refine hK.out _ _ ⟨(setRow_other _ w2.heap.size w8.heap.size q.cs (by have := H8.out; omega)).trans U0, (setRow_other _ w2.heap.size w10.heap.size q.cs (by have := H10.out; omega)).trans V0, (setRow_other _ w2.heap.size (w2.heap.size + 1) q.cs (by omega)).trans C0, below_setRow B0 (g := w2.heap.size) B2.size q.cs⟩ (fun hHeld => ?_)
          clear hK K
          refine last_ (i := 3) (N := none) #[true, true, true, true] rfl rfl (by kernel_rfl) (by decide) (fun K hK => ?_)
          obtain ⟨U15, V15, C15, B15⟩ := hHeld
          refine skip_ (w1 := ?_) (by rfl) rfl ?_ ?_
          rotate_left
          · refine exec_store_row 35 (.tmp 4) (.tmp 109) ?_ (w2.heap.size + 1) q.cs ?_ ?_ 35 _ C15 (T.i35 _) (T.sz T.zero _) (T.one _) <;> rfl
          refine hK.out _ _ ?_
          clear hK K
          refine done_ (by kernel_rfl) ?_
          go_wp2
          exact ⟨⟨k + 1, by omega, by go_num, ⟨q, hq, (setRow_other _ (w2.heap.size + 1) w2.heap.size q.cs (by omega)).trans A14.out, setRow_heap _ _ _ q.cs _ _ C15⟩, below_setRow B15 (g := w2.heap.size + 1) (by have := B2.size; omega) q.cs⟩, by simp [intOf]; omega⟩
      · rcases (by omega : r < 0 ∨ (0 ≤ r ∧ 13 < r) ∨ (0 ≤ r ∧ r ≤ 13 ∧ v < 0) ∨ (0 ≤ r ∧ r ≤ 13 ∧ 0 ≤ v ∧ 255 < v)) with h1 | ⟨h1, h2⟩ | ⟨h1, h2, h3⟩ | ⟨h1, h2, h3, h4⟩
        · have e0 : decide (0 ≤ r) = false := by simp; omega
          go_wp2_with (first
            | (refine wpList_load_row rfl 35 (.tmp 3) rfl (w2.heap.size) rfl 35 _ (0, 0) _ (bkAlloc HA.out _) Try.underlying35 rfl (T.i35 _) ?_)
            | (go_at_call 27; (with_reducible refine (write_range_a t ht r v (.inl h1) _).mono ?_); rintro e w4 ⟨rfl, hb4⟩; have A4 := Lib.hid (bkBelow (bkAlloc HA.out _) hb4); have C4 := Lib.hid (bkBelow (bkAlloc HC.out _) hb4); have B4 := bdT (hB.alloc hB.size _) (hB.alloc hB.size _).size hb4; have X4 := Lib.hid (bkBelow (heap_alloc_new wr (Obj.cells #[iv r, iv v, iv s] 54)) hb4); have Z4 := Lib.hid (heap_alloc_new w4 (Obj.cells #[iv 0, iv 0, iv 0, iv 0, iv 0, iv 0, iv 0, iv 0, iv 0, iv 0, iv 0, iv 0, iv 0, iv 0, iv 0, iv 0, iv 0, iv 0, iv 0, iv 0, iv 0, iv 0, iv 0, iv 0] 35)); clear HA HC)
            | (refine wpList_store_row rfl 35 (.tmp 7) (.tmp 36) rfl (w4.heap.size) T.zero.cs rfl rfl 35 _ Z4.out (T.i35 _) (T.sz T.zero _) (T.one _) ?_; have A5 := Lib.hid ((setRow_other _ w4.heap.size w2.heap.size T.zero.cs (by have := bkLt A4.out; omega)).trans (bkAlloc A4.out (Obj.cells #[iv 0, iv 0, iv 0, iv 0, iv 0, iv 0, iv 0, iv 0, iv 0, iv 0, iv 0, iv 0, iv 0, iv 0, iv 0, iv 0, iv 0, iv 0, iv 0, iv 0, iv 0, iv 0, iv 0, iv 0] 35))); have C5 := Lib.hid ((setRow_other _ w4.heap.size (w2.heap.size + 1) T.zero.cs (by have := bkLt C4.out; omega)).trans (bkAlloc C4.out (Obj.cells #[iv 0, iv 0, iv 0, iv 0, iv 0, iv 0, iv 0, iv 0, iv 0, iv 0, iv 0, iv 0, iv 0, iv 0, iv 0, iv 0, iv 0, iv 0, iv 0, iv 0, iv 0, iv 0, iv 0, iv 0] 35))); have Z5 := Lib.hid (setRow_heap _ _ _ T.zero.cs _ _ Z4.out); have B5 := below_setRow (B4.alloc B4.size (Obj.cells #[iv 0, iv 0, iv 0, iv 0, iv 0, iv 0, iv 0, iv 0, iv 0, iv 0, iv 0, iv 0, iv 0, iv 0, iv 0, iv 0, iv 0, iv 0, iv 0, iv 0, iv 0, iv 0, iv 0, iv 0] 35)) (g := w4.heap.size) B4.size T.zero.cs; have X5 := (setRow_other _ w4.heap.size wr.heap.size T.zero.cs (by have := bkLt X4.out; omega)).trans (bkAlloc X4.out (Obj.cells #[iv 0, iv 0, iv 0, iv 0, iv 0, iv 0, iv 0, iv 0, iv 0, iv 0, iv 0, iv 0, iv 0, iv 0, iv 0, iv 0, iv 0, iv 0, iv 0, iv 0, iv 0, iv 0, iv 0, iv 0] 35)); have f0 := (bkCell X5 0).trans (show _ = some (iv r) from rfl); have f1 := (bkCell X5 1).trans (show _ = some (iv v) from rfl); clear A4 C4 Z4 X4 X5)
            | (refine gdOn (by rfl) ?_; refine wpList_load_row rfl 35 (.tmp 7) rfl (w4.heap.size) rfl 35 _ (0, 0) _ Z5.out Try.underlying35 rfl (T.i35 _) ?_)
            | (refine gdOn (by rfl) ?_; refine wpBuild0 rfl 35 rfl T.zero.cs built35 ?_))
          exact ⟨⟨k + 1, by omega, by go_num, ⟨t, ht, A5.out, C5.out⟩, B5⟩, by simp [intOf]; omega⟩
        · have e0 : decide (0 ≤ r) = true := by simp; omega
          have e1 : decide (r < 14) = false := by simp; omega
          go_wp2_with (first
            | (refine wpList_load_row rfl 35 (.tmp 3) rfl (w2.heap.size) rfl 35 _ (0, 0) _ (bkAlloc HA.out _) Try.underlying35 rfl (T.i35 _) ?_)
            | (go_at_call 27; (with_reducible refine (write_range_a t ht r v (.inr h2) _).mono ?_); rintro e w4 ⟨rfl, hb4⟩; have A4 := Lib.hid (bkBelow (bkAlloc HA.out _) hb4); have C4 := Lib.hid (bkBelow (bkAlloc HC.out _) hb4); have B4 := bdT (hB.alloc hB.size _) (hB.alloc hB.size _).size hb4; have X4 := Lib.hid (bkBelow (heap_alloc_new wr (Obj.cells #[iv r, iv v, iv s] 54)) hb4); have Z4 := Lib.hid (heap_alloc_new w4 (Obj.cells #[iv 0, iv 0, iv 0, iv 0, iv 0, iv 0, iv 0, iv 0, iv 0, iv 0, iv 0, iv 0, iv 0, iv 0, iv 0, iv 0, iv 0, iv 0, iv 0, iv 0, iv 0, iv 0, iv 0, iv 0] 35)); clear HA HC)
            | (refine wpList_store_row rfl 35 (.tmp 7) (.tmp 36) rfl (w4.heap.size) T.zero.cs rfl rfl 35 _ Z4.out (T.i35 _) (T.sz T.zero _) (T.one _) ?_; have A5 := Lib.hid ((setRow_other _ w4.heap.size w2.heap.size T.zero.cs (by have := bkLt A4.out; omega)).trans (bkAlloc A4.out (Obj.cells #[iv 0, iv 0, iv 0, iv 0, iv 0, iv 0, iv 0, iv 0, iv 0, iv 0, iv 0, iv 0, iv 0, iv 0, iv 0, iv 0, iv 0, iv 0, iv 0, iv 0, iv 0, iv 0, iv 0, iv 0] 35))); have C5 := Lib.hid ((setRow_other _ w4.heap.size (w2.heap.size + 1) T.zero.cs (by have := bkLt C4.out; omega)).trans (bkAlloc C4.out (Obj.cells #[iv 0, iv 0, iv 0, iv 0, iv 0, iv 0, iv 0, iv 0, iv 0, iv 0, iv 0, iv 0, iv 0, iv 0, iv 0, iv 0, iv 0, iv 0, iv 0, iv 0, iv 0, iv 0, iv 0, iv 0] 35))); have Z5 := Lib.hid (setRow_heap _ _ _ T.zero.cs _ _ Z4.out); have B5 := below_setRow (B4.alloc B4.size (Obj.cells #[iv 0, iv 0, iv 0, iv 0, iv 0, iv 0, iv 0, iv 0, iv 0, iv 0, iv 0, iv 0, iv 0, iv 0, iv 0, iv 0, iv 0, iv 0, iv 0, iv 0, iv 0, iv 0, iv 0, iv 0] 35)) (g := w4.heap.size) B4.size T.zero.cs; have X5 := (setRow_other _ w4.heap.size wr.heap.size T.zero.cs (by have := bkLt X4.out; omega)).trans (bkAlloc X4.out (Obj.cells #[iv 0, iv 0, iv 0, iv 0, iv 0, iv 0, iv 0, iv 0, iv 0, iv 0, iv 0, iv 0, iv 0, iv 0, iv 0, iv 0, iv 0, iv 0, iv 0, iv 0, iv 0, iv 0, iv 0, iv 0] 35)); have f0 := (bkCell X5 0).trans (show _ = some (iv r) from rfl); have f1 := (bkCell X5 1).trans (show _ = some (iv v) from rfl); clear A4 C4 Z4 X4 X5)
            | (refine gdOn (by rfl) ?_; refine wpList_load_row rfl 35 (.tmp 7) rfl (w4.heap.size) rfl 35 _ (0, 0) _ Z5.out Try.underlying35 rfl (T.i35 _) ?_)
            | (refine gdOn (by rfl) ?_; refine wpBuild0 rfl 35 rfl T.zero.cs built35 ?_))
          exact ⟨⟨k + 1, by omega, by go_num, ⟨t, ht, A5.out, C5.out⟩, B5⟩, by simp [intOf]; omega⟩
        · have e0 : decide (0 ≤ r) = true := by simp; omega
          have e1 : decide (r < 14) = true := by simp; omega
          have e2 : decide (0 ≤ v) = false := by simp; omega
          go_wp2_with (first
            | (refine wpList_load_row rfl 35 (.tmp 3) rfl (w2.heap.size) rfl 35 _ (0, 0) _ (bkAlloc HA.out _) Try.underlying35 rfl (T.i35 _) ?_)
            | (go_at_call 27; (with_reducible refine (write_range_b t ht r v h1 h2 (.inl h3) _).mono ?_); rintro e w4 ⟨rfl, hb4⟩; have A4 := Lib.hid (bkBelow (bkAlloc HA.out _) hb4); have C4 := Lib.hid (bkBelow (bkAlloc HC.out _) hb4); have B4 := bdT (hB.alloc hB.size _) (hB.alloc hB.size _).size hb4; have X4 := Lib.hid (bkBelow (heap_alloc_new wr (Obj.cells #[iv r, iv v, iv s] 54)) hb4); have Z4 := Lib.hid (heap_alloc_new w4 (Obj.cells #[iv 0, iv 0, iv 0, iv 0, iv 0, iv 0, iv 0, iv 0, iv 0, iv 0, iv 0, iv 0, iv 0, iv 0, iv 0, iv 0, iv 0, iv 0, iv 0, iv 0, iv 0, iv 0, iv 0, iv 0] 35)); clear HA HC)
            | (refine wpList_store_row rfl 35 (.tmp 7) (.tmp 36) rfl (w4.heap.size) T.zero.cs rfl rfl 35 _ Z4.out (T.i35 _) (T.sz T.zero _) (T.one _) ?_; have A5 := Lib.hid ((setRow_other _ w4.heap.size w2.heap.size T.zero.cs (by have := bkLt A4.out; omega)).trans (bkAlloc A4.out (Obj.cells #[iv 0, iv 0, iv 0, iv 0, iv 0, iv 0, iv 0, iv 0, iv 0, iv 0, iv 0, iv 0, iv 0, iv 0, iv 0, iv 0, iv 0, iv 0, iv 0, iv 0, iv 0, iv 0, iv 0, iv 0] 35))); have C5 := Lib.hid ((setRow_other _ w4.heap.size (w2.heap.size + 1) T.zero.cs (by have := bkLt C4.out; omega)).trans (bkAlloc C4.out (Obj.cells #[iv 0, iv 0, iv 0, iv 0, iv 0, iv 0, iv 0, iv 0, iv 0, iv 0, iv 0, iv 0, iv 0, iv 0, iv 0, iv 0, iv 0, iv 0, iv 0, iv 0, iv 0, iv 0, iv 0, iv 0] 35))); have Z5 := Lib.hid (setRow_heap _ _ _ T.zero.cs _ _ Z4.out); have B5 := below_setRow (B4.alloc B4.size (Obj.cells #[iv 0, iv 0, iv 0, iv 0, iv 0, iv 0, iv 0, iv 0, iv 0, iv 0, iv 0, iv 0, iv 0, iv 0, iv 0, iv 0, iv 0, iv 0, iv 0, iv 0, iv 0, iv 0, iv 0, iv 0] 35)) (g := w4.heap.size) B4.size T.zero.cs; have X5 := (setRow_other _ w4.heap.size wr.heap.size T.zero.cs (by have := bkLt X4.out; omega)).trans (bkAlloc X4.out (Obj.cells #[iv 0, iv 0, iv 0, iv 0, iv 0, iv 0, iv 0, iv 0, iv 0, iv 0, iv 0, iv 0, iv 0, iv 0, iv 0, iv 0, iv 0, iv 0, iv 0, iv 0, iv 0, iv 0, iv 0, iv 0] 35)); have f0 := (bkCell X5 0).trans (show _ = some (iv r) from rfl); have f1 := (bkCell X5 1).trans (show _ = some (iv v) from rfl); clear A4 C4 Z4 X4 X5)
            | (refine gdOn (by rfl) ?_; refine wpList_load_row rfl 35 (.tmp 7) rfl (w4.heap.size) rfl 35 _ (0, 0) _ Z5.out Try.underlying35 rfl (T.i35 _) ?_)
            | (refine gdOn (by rfl) ?_; refine wpBuild0 rfl 35 rfl T.zero.cs built35 ?_))
          exact ⟨⟨k + 1, by omega, by go_num, ⟨t, ht, A5.out, C5.out⟩, B5⟩, by simp [intOf]; omega⟩
        · have e0 : decide (0 ≤ r) = true := by simp; omega
          have e1 : decide (r < 14) = true := by simp; omega
          have e2 : decide (0 ≤ v) = true := by simp; omega
          have e3 : decide (v ≤ 255) = false := by simp; omega
          go_wp2_with (first
            | (refine wpList_load_row rfl 35 (.tmp 3) rfl (w2.heap.size) rfl 35 _ (0, 0) _ (bkAlloc HA.out _) Try.underlying35 rfl (T.i35 _) ?_)
            | (go_at_call 27; (with_reducible refine (write_range_b t ht r v h1 h2 (.inr h4) _).mono ?_); rintro e w4 ⟨rfl, hb4⟩; have A4 := Lib.hid (bkBelow (bkAlloc HA.out _) hb4); have C4 := Lib.hid (bkBelow (bkAlloc HC.out _) hb4); have B4 := bdT (hB.alloc hB.size _) (hB.alloc hB.size _).size hb4; have X4 := Lib.hid (bkBelow (heap_alloc_new wr (Obj.cells #[iv r, iv v, iv s] 54)) hb4); have Z4 := Lib.hid (heap_alloc_new w4 (Obj.cells #[iv 0, iv 0, iv 0, iv 0, iv 0, iv 0, iv 0, iv 0, iv 0, iv 0, iv 0, iv 0, iv 0, iv 0, iv 0, iv 0, iv 0, iv 0, iv 0, iv 0, iv 0, iv 0, iv 0, iv 0] 35)); clear HA HC)
            | (refine wpList_store_row rfl 35 (.tmp 7) (.tmp 36) rfl (w4.heap.size) T.zero.cs rfl rfl 35 _ Z4.out (T.i35 _) (T.sz T.zero _) (T.one _) ?_; have A5 := Lib.hid ((setRow_other _ w4.heap.size w2.heap.size T.zero.cs (by have := bkLt A4.out; omega)).trans (bkAlloc A4.out (Obj.cells #[iv 0, iv 0, iv 0, iv 0, iv 0, iv 0, iv 0, iv 0, iv 0, iv 0, iv 0, iv 0, iv 0, iv 0, iv 0, iv 0, iv 0, iv 0, iv 0, iv 0, iv 0, iv 0, iv 0, iv 0] 35))); have C5 := Lib.hid ((setRow_other _ w4.heap.size (w2.heap.size + 1) T.zero.cs (by have := bkLt C4.out; omega)).trans (bkAlloc C4.out (Obj.cells #[iv 0, iv 0, iv 0, iv 0, iv 0, iv 0, iv 0, iv 0, iv 0, iv 0, iv 0, iv 0, iv 0, iv 0, iv 0, iv 0, iv 0, iv 0, iv 0, iv 0, iv 0, iv 0, iv 0, iv 0] 35))); have Z5 := Lib.hid (setRow_heap _ _ _ T.zero.cs _ _ Z4.out); have B5 := below_setRow (B4.alloc B4.size (Obj.cells #[iv 0, iv 0, iv 0, iv 0, iv 0, iv 0, iv 0, iv 0, iv 0, iv 0, iv 0, iv 0, iv 0, iv 0, iv 0, iv 0, iv 0, iv 0, iv 0, iv 0, iv 0, iv 0, iv 0, iv 0] 35)) (g := w4.heap.size) B4.size T.zero.cs; have X5 := (setRow_other _ w4.heap.size wr.heap.size T.zero.cs (by have := bkLt X4.out; omega)).trans (bkAlloc X4.out (Obj.cells #[iv 0, iv 0, iv 0, iv 0, iv 0, iv 0, iv 0, iv 0, iv 0, iv 0, iv 0, iv 0, iv 0, iv 0, iv 0, iv 0, iv 0, iv 0, iv 0, iv 0, iv 0, iv 0, iv 0, iv 0] 35)); have f0 := (bkCell X5 0).trans (show _ = some (iv r) from rfl); have f1 := (bkCell X5 1).trans (show _ = some (iv v) from rfl); clear A4 C4 Z4 X4 X5)
            | (refine gdOn (by rfl) ?_; refine wpList_load_row rfl 35 (.tmp 7) rfl (w4.heap.size) rfl 35 _ (0, 0) _ Z5.out Try.underlying35 rfl (T.i35 _) ?_)
            | (refine gdOn (by rfl) ?_; refine wpBuild0 rfl 35 rfl T.zero.cs built35 ?_))
          exact ⟨⟨k + 1, by omega, by go_num, ⟨t, ht, A5.out, C5.out⟩, B5⟩, by simp [intOf]; omega⟩
    · have k1 : decide ((k : Int) < (len : Int)) = false := decide_eq_false (by omega)
      go_wp2
      go_ret
      exact ⟨rfl, hB⟩
theorem acts_of {w : World} {a : Addr} {len : Nat} (h : ∀ i, i < len → ∀ j, j < 3 → ∃ x, w.cell? (a.add (i * 3 + j)) = some (.int .i64 x) ∧ (Lit.int .i64 x).wf = true) (hp : 0 < len) : ∃ b off, a = ⟨b, off, none⟩ ∧ Acts w b off len ∧ b < w.heap.size := by
  obtain ⟨b, off, spot⟩ := a
  obtain ⟨x0, hx, _⟩ := h 0 hp 0 (by omega)
  have hspot : spot = none := by simpa [Addr.add] using World.cell?_spot hx
  subst hspot
  refine ⟨b, off, rfl, fun i hi => ?_, World.block_lt_of_cell? w _ hx⟩
  obtain ⟨r, hr, _⟩ := h i hi 0 (by omega)
  obtain ⟨v, hv, _⟩ := h i hi 1 (by omega)
  obtain ⟨s, hs, hw⟩ := h i hi 2 (by omega)
  rw [Go.WideShapes.add_plain] at hr hv hs
  simp only [Lit.wf, Bool.and_eq_true, decide_eq_true_eq] at hw
  have hw' : -9223372036854775808 ≤ s ∧ s ≤ 9223372036854775807 := ⟨hw.1, hw.2⟩
  exact ⟨r, v, s, hr, hv, hs, hw'.1, hw'.2⟩
set_option maxHeartbeats 4000000 in
set_option maxRecDepth 100000 in
theorem script_long (A : Option Addr) (len cap : Nat) (hlen : ¬ len ≤ 60) (w : World) : Calls Try.prog 12 #[.slice A len cap] w fun e w' => e = .returned (.bool true) ∧ Below w.heap.size w w' := by
  have d0 : decide (60 < (len : Int)) = true := decide_eq_true (by omega)
  go_enter Try.func12, Try.ntmps12
  go_wp2
  go_ret
  exact ⟨rfl, Below.refl _ _⟩
theorem script_any (A : Option Addr) (len cap : Nat) (w : World) (h : len = 0 ∨ ∃ a, A = some a ∧ ∀ i, i < len → ∀ j, j < 3 → ∃ x, w.cell? (a.add (i * 3 + j)) = some (.int .i64 x) ∧ (Lit.int .i64 x).wf = true) : Calls Try.prog 12 #[.slice A len cap] w fun e w' => e = .returned (.bool true) ∧ Below w.heap.size w w' := by
  by_cases hlen : len ≤ 60
  · by_cases hp : 0 < len
    · rcases h with h | ⟨a, rfl, h⟩
      · omega
      · obtain ⟨b, off, rfl, hX, hb⟩ := acts_of h hp
        exact script_small _ b off len cap hlen w (fun _ => rfl) hX (fun _ => hb)
    · exact script_small A 0 0 len cap hlen w (fun h => absurd h hp) (fun i hi => by omega) (fun h => absurd h hp)
  · exact script_long A len cap hlen w
end Go.Proofs.Ytfpgidflaaefeaa.CH

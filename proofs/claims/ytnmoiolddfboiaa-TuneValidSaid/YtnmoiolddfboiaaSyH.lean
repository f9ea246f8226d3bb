/- The value at a cursor, by any kind of interpolation. -/
import Derived.Test.YtnmoiolddfboiaaSyG
namespace Go.Proofs.Ytnmoiolddfboiaa.SX
open Go.RowKit Go.Proofs.YtnmoiolddfboiaaW.PrintLast Go.Proofs.Ytnmoiolddfboiaa.TX Go.Proofs.Ytnmoiolddfboiaa.Cu
set_option linter.unusedVariables false
set_option linter.unusedSimpArgs false
/-- eight numbers as cells -/
def c8 (F : Nat → Int) : Array Value := #[iv (F 0), iv (F 1), iv (F 2), iv (F 3), iv (F 4), iv (F 5), iv (F 6), iv (F 7)]
theorem c8_at (F : Nat → Int) {k : Nat} (h : k < 8) : (c8 F)[k]? = some (iv (F k)) := by
  rcases (by omega : k = 0 ∨ k = 1 ∨ k = 2 ∨ k = 3 ∨ k = 4 ∨ k = 5 ∨ k = 6 ∨ k = 7) with rfl | rfl | rfl | rfl | rfl | rfl | rfl | rfl <;> rfl
theorem c8_set (F : Nat → Int) {k : Nat} (h : k < 8) (x : Int) : (c8 F).setIfInBounds k (iv x) = c8 (fun i => if i = k then x else F i) := by
  rcases (by omega : k = 0 ∨ k = 1 ∨ k = 2 ∨ k = 3 ∨ k = 4 ∨ k = 5 ∨ k = 6 ∨ k = 7) with rfl | rfl | rfl | rfl | rfl | rfl | rfl | rfl <;> rfl
theorem c8_congr {F G : Nat → Int} (h : ∀ i, i < 8 → F i = G i) : c8 F = c8 G := by
  unfold c8
  rw [h 0 (by omega), h 1 (by omega), h 2 (by omega), h 3 (by omega), h 4 (by omega), h 5 (by omega), h 6 (by omega), h 7 (by omega)]
theorem c8_one (F : Nat → Int) : (c8 F).all (·.oneCell') = true := by simp [c8, Value.oneCell']
theorem i107 (F : Nat → Int) : (Try.prog.info? 107).map (·.size) = some (c8 F).size := by kernel_rfl
/-- the taps of a kind: those whose weight is none are not asked -/
def tpF (ws T : Nat → Int) (i : Nat) : Int := if ws i = 0 then 0 else T i
def tpU (ws T : Nat → Int) (k i : Nat) : Int := if i < k then tpF ws T i else 0
theorem tpU_zero (ws T : Nat → Int) : c8 (tpU ws T 0) = c8 (fun _ => 0) := c8_congr fun i _ => if_neg (by omega)
theorem tpU_end (ws T : Nat → Int) : c8 (tpU ws T 8) = c8 (tpF ws T) := c8_congr fun i h => if_pos h
theorem tpU_at (ws T : Nat → Int) (k : Nat) : tpU ws T k k = 0 := if_neg (by omega)
theorem tpU_same {ws T : Nat → Int} {k : Nat} (h : ws k = 0) : c8 (tpU ws T k) = c8 (tpU ws T (k + 1)) := c8_congr fun i _ => by
  by_cases e : i = k
  · subst e
    rw [show tpU ws T i i = 0 from if_neg (by omega), show tpU ws T (i + 1) i = tpF ws T i from if_pos (by omega)]
    exact (if_pos h).symm
  · by_cases c : i < k
    · exact (if_pos c).trans (if_pos (by omega)).symm
    · exact (if_neg c).trans (if_neg (by omega)).symm
theorem tpU_step {ws T : Nat → Int} {k : Nat} (h : ¬ ws k = 0) : c8 (fun i => if i = k then T k else tpU ws T k i) = c8 (tpU ws T (k + 1)) := c8_congr fun i _ => by
  by_cases e : i = k
  · subst e
    rw [if_pos rfl, show tpU ws T (i + 1) i = tpF ws T i from if_pos (by omega)]
    exact (if_neg h).symm
  · rw [if_neg e]
    by_cases c : i < k
    · exact (if_pos c).trans (if_pos (by omega)).symm
    · exact (if_neg c).trans (if_neg (by omega)).symm
/-- what a frame may tell -/
def Tame (s : S) (n : Nat) (xs : Nat → Int) : Prop := ∀ i, i < n → if s.a2 = 8 then -128 ≤ xs i ∧ xs i ≤ 127 else -32768 ≤ xs i ∧ xs i ≤ 32767
theorem vS_tame {s : S} {n : Nat} {xs : Nat → Int} (h : vS s n xs = true) : Tame s n xs := by
  obtain ⟨h1, h2, h3, h4, h5, h6, h7, h8⟩ := vS_yes h
  intro i hi
  have := h5 i hi
  unfold hb at this
  split
  · rename_i e; rw [if_pos e] at this; omega
  · rename_i e; rw [if_neg e] at this; omega
set_option maxHeartbeats 16000000 in
set_option maxRecDepth 100000 in
theorem at_gen (s : S) (A : Option Addr) (n c0 g b o : Nat) (xs : Nat → Int) (fn : FuncId) (ek : Enters Try.prog fn) (sh f : Int) (ws : Nat → Int) (val : (Nat → Int) → Int) (c : Cur) (held : Bool) (T : Nat → Int)
    (hW : ∀ W, Calls Try.prog fn #[iv f] W fun e w' => e = .returned (.agg (c8 ws)) ∧ Below W.heap.size W w')
    (hV : ∀ (W : World) (b : Nat), W.heap[b]? = some (.cells (c8 (tpF ws T)) 107 (0, 0)) → Calls Try.prog 117 #[.agg #[.func (Fn.func fn) #[] #[], iv sh], .pointer (some ⟨b, 0, none⟩), iv f] W fun e w' => e = .returned (iv (val (tpF ws T))) ∧ Below W.heap.size W w')
    (hT : ∀ k, k < 8 → T k = tapM s n xs c ((k : Int) - 3) held) (hf : c.frac.tdiv 256 = f) (hfw : 0 ≤ f ∧ f ≤ 255) (hd : c.done = false) (hL : Loops s n) (hx : Frames s n xs) (hc : CurOk n c) (w : World) (hP : w.heap[g]? = some (.cells (s.cs A n c0) 24 (0, 0))) (hA : DataAt w A n b o xs) :
    Calls Try.prog 85 #[.agg #[.func (Fn.func fn) #[] #[], iv sh], .pointer (some ⟨g, 0, none⟩), .agg (Cur.cs c), .bool held] w fun e w' => e = .returned (iv (val (tpF ws T))) ∧ Below w.heap.size w w' := by
  have B0 : Below w.heap.size w ((w.alloc (Obj.cells #[.func (Fn.func fn) #[] #[], iv sh] 90)).alloc (Obj.cells (Cur.cs c) 26)) := ((Below.refl _ _).alloc (Nat.le_refl _) _).alloc (by simp) _
  have K0 := Lib.hid (heap_alloc2_old w (Obj.cells #[.func (Fn.func fn) #[] #[], iv sh] 90) (Obj.cells (Cur.cs c) 26))
  have C0 := Lib.hid (heap_alloc2_new w (Obj.cells #[.func (Fn.func fn) #[] #[], iv sh] 90) (Obj.cells (Cur.cs c) 26))
  have P0 := Lib.hid (bkBelow hP B0)
  have HG := Lib.hid (bkLt hP)
  have HD := Lib.hid hA
  have HW := Lib.hid hW
  have HV := Lib.hid hV
  have HT := Lib.hid hT
  have TC := Lib.hid fun (k : Int) (W : World) (hP : W.heap[g]? = some (.cells (s.cs A n c0) 24 (0, 0))) (h0 : -1000 ≤ k) (h8 : k ≤ 8) (h : DataAt W A n b o xs) => tap_any s A n c0 g b o xs c k held hL hx hc h0 h8 W hP h
  have y3 : (Cur.cs c)[3]? = some (.bool c.done) := rfl
  have y1 : (Cur.cs c)[1]? = some (iv c.frac) := rfl
  have f1 : wrap64 (c.frac.tdiv 256) = f := by rw [hf]; exact wrap_in (by omega) (by omega)
  rw [hd] at y3
  have eK : ∀ (args : Array Value) (w : World), (callFunc fn args).run Try.prog w = .ok (.enter fn args) w := ek
  have HFF := Lib.hid (And.intro hf hfw)
  clear hW hV hT hf hfw hd hL hx hc hP hA ek
  go_enter Try.func85, Try.ntmps85
  go_upto_region 4 with (fail)
  go_upto_region 5 with (first
    | (go_at_fn fn; (with_reducible refine (HW.out _).mono ?_); rintro e w1 ⟨rfl, hb1⟩)
    | (refine wpList_store_row rfl 107 (.tmp 10) (.tmp 21) rfl (w1.heap.size) (c8 ws) rfl rfl 107 _ (heap_alloc_new w1 (Obj.cells #[iv 0, iv 0, iv 0, iv 0, iv 0, iv 0, iv 0, iv 0] 107)) (i107 ws) rfl (c8_one ws) ?_))
  have K1 := Lib.hid (bkBelow K0.out hb1)
  have C1 := Lib.hid (bkBelow C0.out hb1)
  have P1 := Lib.hid (bkBelow P0.out hb1)
  have B1 := bdT B0 B0.size hb1
  have HLT := Lib.hid (show w.heap.size + 1 < w1.heap.size from bkLt C1.out)
  have k2 := below_setRow ((Below.refl w1.heap.size w1).alloc (Nat.le_refl _) (Obj.cells #[iv 0, iv 0, iv 0, iv 0, iv 0, iv 0, iv 0, iv 0] 107)) (g := w1.heap.size) (Nat.le_refl _) (c8 ws)
  have K2 := Lib.hid (bkBelow K1.out k2)
  have C2 := Lib.hid (bkBelow C1.out k2)
  have P2 := Lib.hid (bkBelow P1.out k2)
  have W2 := Lib.hid (setRow_heap _ _ _ (c8 ws) _ _ (heap_alloc_new w1 (Obj.cells #[iv 0, iv 0, iv 0, iv 0, iv 0, iv 0, iv 0, iv 0] 107)))
  have B2 := bdT B1 B1.size k2
  clear K0 C0 P0 K1 C1 P1 B0 B1 k2
  generalize (w1.alloc (Obj.cells #[iv 0, iv 0, iv 0, iv 0, iv 0, iv 0, iv 0, iv 0] 107)).setRow w1.heap.size (c8 ws) = w2 at *
  go_upto_region 6 with (fail)
  have HLT2 := Lib.hid (bkLt W2.out)
  have k3 := ((Below.refl w2.heap.size w2).alloc (Nat.le_refl _) (Obj.cells #[iv 0, iv 0, iv 0, iv 0, iv 0, iv 0, iv 0, iv 0] 107))
  have K3 := Lib.hid (bkBelow K2.out k3)
  have C3 := Lib.hid (bkBelow C2.out k3)
  have P3 := Lib.hid (bkBelow P2.out k3)
  have W3 := Lib.hid (bkBelow W2.out k3)
  have T3 := Lib.hid (show (w2.alloc (Obj.cells #[iv 0, iv 0, iv 0, iv 0, iv 0, iv 0, iv 0, iv 0] 107)).heap[w2.heap.size]? = some (.cells (c8 (tpU ws T 0)) 107 (0, 0)) from (heap_alloc_new w2 _).trans (by rw [tpU_zero]; rfl))
  have B3 := bdT B2 B2.size k3
  clear K2 C2 P2 W2 B2 k3
  generalize w2.alloc (Obj.cells #[iv 0, iv 0, iv 0, iv 0, iv 0, iv 0, iv 0, iv 0] 107) = w3 at *
  go_upto_region 7 with (fail)
  go_loopw [22] (fun v wr => ∃ k : Nat, k ≤ 8 ∧ v = iv k ∧ wr.heap[w.heap.size]? = some (.cells #[.func (Fn.func fn) #[] #[], iv sh] 90 (0, 0)) ∧ wr.heap[w.heap.size + 1]? = some (.cells (Cur.cs c) 26 (0, 0)) ∧ wr.heap[g]? = some (.cells (s.cs A n c0) 24 (0, 0)) ∧ wr.heap[w1.heap.size]? = some (.cells (c8 ws) 107 (0, 0)) ∧ wr.heap[w2.heap.size]? = some (.cells (c8 (tpU ws T k)) 107 (0, 0)) ∧ Below w.heap.size w wr) (fun v _ => 8 - (intOf v).toNat)
  case atStart => exact ⟨0, by omega, rfl, K3.out, C3.out, P3.out, W3.out, T3.out, B3⟩
  case round =>
    clear K3 C3 P3 W3 T3 B3
    obtain ⟨k, hk, rfl, hK, hC, hP, hW, hT, hB⟩ := hrel
    have NK := Lib.hid hK
    have NC := Lib.hid hC
    have NP := Lib.hid hP
    have NW := Lib.hid hW
    have NT := Lib.hid hT
    have l3 : (0 : Int) ≤ (k : Int) := by omega
    clear hK hC hP hW hT
    by_cases hlt : k < 8
    · have l4 : (k : Int) < 8 := by omega
      have p0 := (bkCell NW.out k).trans (c8_at ws hlt)
      by_cases h0 : ws k = 0
      · have e0 : (ws k != 0) = false := by simp [h0]
        have H0 := Lib.hid h0
        clear h0
        go_wp2
        exact ⟨⟨k + 1, by omega, by go_num, NK.out, NC.out, NP.out, NW.out, NT.out.trans (by rw [tpU_same H0.out]), hB⟩, by simp [intOf]; omega⟩
      · have e0 : (ws k != 0) = true := by simp [h0]
        have H0 := Lib.hid h0
        clear h0
        have e1 : wrap64 ((k : Int) - 3) = (k : Int) - 3 := wrap_in (by omega) (by omega)
        have TQ := Lib.hid (show Calls Try.prog 66 #[.pointer (some ⟨g, 0, none⟩), .agg (Cur.cs c), iv ((k : Int) - 3), .bool held] wr fun e w' => e = .returned (iv (T k)) ∧ Below wr.heap.size wr w' from by rw [HT.out k hlt]; exact TC.out ((k : Int) - 3) wr NP.out (by omega) (by omega) (HD.out.later hB))
        go_upto_region 10 with (fail)
        clear p0
        go_upto_region 11 with (first
          | (refine wpList_load_row rfl 26 (.tmp 6) rfl (w.heap.size + 1) rfl 26 _ (0, 0) _ NC.out Try.underlying26 rfl (Cur.i26 _) ?_)
          | (go_at_call 66; (with_reducible refine TQ.out.mono ?_); rintro e w5 ⟨rfl, hb5⟩; have K5 := Lib.hid (bkBelow NK.out hb5); have C5 := Lib.hid (bkBelow NC.out hb5); have P5 := Lib.hid (bkBelow NP.out hb5); have W5 := Lib.hid (bkBelow NW.out hb5); have T5 := Lib.hid (bkBelow NT.out hb5); have B5 := bdT hB hB.size hb5; have s4 := (bkCell T5.out k).trans (c8_at (tpU ws T k) hlt); have f4 := bkFrozen T5.out k))
        have hlt1 := HLT.out
        have hlt2 := HLT2.out
        have hg := HG.out
        have K6 := Lib.hid (bkFar K5.out (p := ⟨w2.heap.size, k, none⟩) (by simp; omega) (iv (T k)))
        have C6 := Lib.hid (bkFar C5.out (p := ⟨w2.heap.size, k, none⟩) (by simp; omega) (iv (T k)))
        have P6 := Lib.hid (bkFar P5.out (p := ⟨w2.heap.size, k, none⟩) (by simp; omega) (iv (T k)))
        have W6 := Lib.hid (bkFar W5.out (p := ⟨w2.heap.size, k, none⟩) (by simp; omega) (iv (T k)))
        have T6 := Lib.hid (bkPut T5.out k (iv (T k)) ((c8_set (tpU ws T k) hlt (T k)).trans (tpU_step H0.out)))
        have B6 := B5.setCell (p := ⟨w2.heap.size, k, none⟩) (by simp; omega) (iv (T k))
        clear K5 C5 P5 W5 T5 B5 s4 f4 hlt1 hlt2 hg e1
        go_wp2
        exact ⟨⟨k + 1, by omega, by go_num, K6.out, C6.out, P6.out, W6.out, T6.out, B6⟩, by simp [intOf]; omega⟩
    · obtain rfl : k = 8 := by omega
      have VQ := Lib.hid (HV.out wr w2.heap.size (by rw [← tpU_end]; exact NT.out))
      go_upto_region 12 with (fail)
      go_wp2_with (first
        | (refine wpList_load_row rfl 90 (.tmp 4) rfl (w.heap.size) rfl 90 _ (0, 0) _ NK.out Try.underlying90 rfl (by kernel_rfl) ?_)
        | (go_at_call 117; (with_reducible refine VQ.out.mono ?_); rintro e w6 ⟨rfl, hb6⟩))
      go_ret
      exact ⟨rfl, bdT hB hB.size hb6⟩
end Go.Proofs.Ytnmoiolddfboiaa.SX

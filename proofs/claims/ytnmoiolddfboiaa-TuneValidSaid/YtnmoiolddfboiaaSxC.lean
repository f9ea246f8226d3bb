/- How a cursor moves in a sample behind a pointer. -/
import Derived.Test.YtnmoiolddfboiaaSxB
namespace Go.Proofs.Ytnmoiolddfboiaa.SX
open Go.RowKit Go.Proofs.YtnmoiolddfboiaaW.PrintLast Go.Proofs.Ytnmoiolddfboiaa.TX Go.Proofs.Ytnmoiolddfboiaa.Cu
set_option linter.unusedVariables false
set_option linter.unusedSimpArgs false
section
variable {P : Program} {ops : Array Oper} {Q : Exit → Act → World → Prop}
/-- a call of a function value inside a region that draws its order -/
theorem goesV_ {oi : Oper} {N : Option Tmp} {a : Act} {w : World} {K : Act → World → Prop} (f : FuncId) {fn : Func} {x : Operand} {ars : Array Operand} {ts : Array TypeId} (hf : P.funcs[f]? = some fn) (hname : (fn.name == "runtime.NumGoroutine") = false) (hb : fn.body.isSome = true) (args : Array Value)
    (hw : Region.wanted oi (yielded ops a.tmps) = true) (hN : oi.dst = N) (hop : oi.op = .call { callee := .value x, args := ars, argTypes := ts }) (hx : a.eval x = .func (.func f) #[] #[]) (hargs : ars.map a.eval = args)
    (h : Calls P f args w fun e w' => ∃ v, e = .returned v ∧ K (a.put N v) w') : if Region.wanted oi (yielded ops a.tmps) = true then Oper.wp P oi a w K Q else K (a.put N undef) w := by
  refine call_ f args hw hN ?_ h
  have he := enters_ hf hname hb args w
  unfold execOp
  simp [hop, hx, resolve, Deferred.ofValue, invoke, hargs, he]
end
/-- a sample whose loops lie in it -/
def Loops (s : S) (n : Nat) : Prop := n ≤ 4096 ∧ LoopOk s.a7 s.a8 s.a9 n ∧ LoopOk s.a10 s.a11 s.a12 n ∧ (s.a7 = 0 → s.a8 = 0 ∧ s.a9 = 0)
def moveM (s : S) (n : Nat) (c : Cur) (step : Int) (held : Bool) : Cur := moveK (rgS s held).1 (rgS s held).2.1 (rgS s held).2.2 n c step
theorem loops_rg {s : S} {n : Nat} (h : Loops s n) (held : Bool) : LoopOk (rgS s held).1 (rgS s held).2.1 (rgS s held).2.2 n ∧ ((rgS s held).1 = 0 → (rgS s held).2.1 = 0 ∧ (rgS s held).2.2 = 0) := by
  obtain ⟨-, h1, h2, h3⟩ := h
  unfold rgS rgk
  cases held
  · rw [if_neg (by decide)]; exact ⟨h1, h3⟩
  · rw [if_pos rfl]
    by_cases c : s.a10 = 0
    · rw [if_pos c]; exact ⟨h1, h3⟩
    · rw [if_neg c]; exact ⟨h2, fun e => absurd e c⟩
theorem way_any (k : Int) (hk : k = 0 ∨ k = 1 ∨ k = 2) {x step N S W : Int} {back : Bool} (hx : 0 ≤ x) (hx1 : x ≤ 1000000000000) (hs : 0 ≤ step) (hs1 : step ≤ 1000000000000) (hS : 0 ≤ S) (hS1 : S ≤ 1000000000000) (hW : 0 ≤ W) (hW1 : W ≤ 1000000000000) (hW0 : k ≠ 0 → 0 < W) {y : Int} {bk on : Bool} (hy : wayM k x step back N S W = (y, bk, on)) (w : World) :
    Calls Try.prog (if k = 0 then 105 else if k = 1 then 106 else 107) #[iv x, iv step, .bool back, .agg #[iv N, iv S, iv W]] w fun e w' => e = .returned (.tuple #[iv y, .bool bk, .bool on]) ∧ Below w.heap.size w w' := by
  rcases hk with rfl | rfl | rfl
  · cases back
    · have := plain_f x step N S W hx hx1 hs hs1 w
      rwa [hy] at this
    · have := plain_t x step N S W hx hx1 hs hs1 w
      rwa [hy] at this
  · have hp := hW0 (by decide)
    cases back
    · by_cases c : S + W ≤ x + step
      · have := fwd_f1 x step N S W hx hx1 hs hs1 hS hS1 hp hW1 c w
        rwa [hy] at this
      · have := fwd_f0 x step N S W hx hx1 hs hs1 hS hS1 hp hW1 c w
        rwa [hy] at this
    · by_cases c : x < S
      · have := fwd_b0 x step N S W hx hx1 hs hs1 hS hS1 hp hW1 c w
        rwa [hy] at this
      · by_cases c1 : x - step < S
        · have := fwd_b1 x step N S W hx hx1 hs hs1 hS hS1 hp hW1 c c1 w
          rwa [hy] at this
        · have := fwd_b2 x step N S W hx hx1 hs hs1 hS hS1 hp hW1 c c1 w
          rwa [hy] at this
  · have hp := hW0 (by decide)
    cases back
    · by_cases c : x + step < S + W
      · have := bnc_f0 x step N S W hx hx1 hs hs1 hS hS1 hp hW1 c w
        rwa [hy] at this
      · by_cases c2 : (x + step - S) % (2 * W) < W
        · have := bnc_f1 x step N S W hx hx1 hs hs1 hS hS1 hp hW1 c c2 w
          rwa [hy] at this
        · have := bnc_f2 x step N S W hx hx1 hs hs1 hS hS1 hp hW1 c c2 w
          rwa [hy] at this
    · by_cases c : x < S
      · have := bnc_b0 x step N S W hx hx1 hs hs1 hS hS1 hp hW1 c w
        rwa [hy] at this
      · by_cases cz : x ≤ S + W - 1
        · by_cases c2 : (2 * W - 1 - (x - S) + step) % (2 * W) < W
          · have := bnc_b1a x step N S W hx hx1 hs hs1 hS hS1 hp hW1 c cz c2 w
            rwa [hy] at this
          · have := bnc_b2a x step N S W hx hx1 hs hs1 hS hS1 hp hW1 c cz c2 w
            rwa [hy] at this
        · by_cases c2 : (2 * W - 1 - (S + W - 1 - S) + step) % (2 * W) < W
          · have := bnc_b1b x step N S W hx hx1 hs hs1 hS hS1 hp hW1 c (by omega) c2 w
            rwa [hy] at this
          · have := bnc_b2b x step N S W hx hx1 hs hs1 hS hS1 hp hW1 c (by omega) c2 w
            rwa [hy] at this
set_option maxHeartbeats 4000000 in
set_option maxRecDepth 100000 in
theorem move_done (s : S) (A : Option Addr) (n c0 g : Nat) (ps fr : Int) (bk : Bool) (step : Int) (held : Bool) (w : World) : Calls Try.prog 62 #[.pointer (some ⟨g, 0, none⟩), .agg (Cur.cs ⟨ps, fr, bk, true⟩), iv step, .bool held] w fun e w' => e = .returned (.agg (Cur.cs ⟨ps, fr, bk, true⟩)) ∧ Below w.heap.size w w' := by
  unfold Cur.cs
  go_enter Try.func62, Try.ntmps62
  go_wp2
  exact bodyPost_ret (results_cell_row rfl _ _ (w.heap.size + 1) 26 _ (0, 0) _ rfl (heap_alloc2_new _ _ _) Try.underlying26 rfl (by kernel_rfl)) rfl ⟨rfl, ((Below.refl _ _).alloc (Nat.le_refl _) _).alloc (by simp) _⟩
set_option maxHeartbeats 4000000 in
set_option maxRecDepth 100000 in
theorem move_0 (s : S) (A : Option Addr) (n c0 g : Nat) (ps fr : Int) (bk : Bool) (step : Int) (held : Bool) (a b : Int) (hr : rgS s held = (0, a, b)) (y : Int) (bk1 on : Bool) (hn : n ≤ 4096) (hs : 0 ≤ step) (hs1 : step ≤ 268435456) (hp : 0 ≤ ps ∧ ps < n ∧ 0 ≤ fr ∧ fr < 65536) (hab : 0 ≤ a ∧ a ≤ b ∧ b ≤ 4096) (hlt : (0 : Int) ≠ 0 → a < b)
    (hy : wayM 0 (ps * 65536 + fr) step bk ((n : Int) * 65536) (a * 65536) ((b - a) * 65536) = (y, bk1, on)) (hy0 : on = true → 0 ≤ y ∧ y ≤ 1000000000000) (w : World) (hP : w.heap[g]? = some (.cells (s.cs A n c0) 24 (0, 0))) :
    Calls Try.prog 62 #[.pointer (some ⟨g, 0, none⟩), .agg (Cur.cs ⟨ps, fr, bk, false⟩), iv step, .bool held] w fun e w' => e = .returned (.agg (Cur.cs (stand (y, bk1, on)))) ∧ Below w.heap.size w w' := by
  have f1 : wrap64 (ps * 65536) = ps * 65536 := wrap_in (by omega) (by omega)
  have f2 : wrap64 (ps * 65536 + fr) = ps * 65536 + fr := wrap_in (by omega) (by omega)
  have f3 : wrap64 ((n : Int) * 65536) = (n : Int) * 65536 := wrap_in (by omega) (by omega)
  have f4 : wrap64 (a * 65536) = a * 65536 := wrap_in (by omega) (by omega)
  have f5 : wrap64 (b - a) = b - a := wrap_in (by omega) (by omega)
  have f6 : wrap64 ((b - a) * 65536) = (b - a) * 65536 := wrap_in (by omega) (by omega)
  have hF := Lib.hid (And.intro f1 (And.intro f2 (And.intro f3 (And.intro f4 (And.intro f5 f6)))))
  clear f1 f2 f3 f4 f5 f6
  have hg := bkLt hP
  have WC := Lib.hid (show ∀ W, Calls Try.prog 105 #[iv (ps * 65536 + fr), iv step, .bool bk, .agg #[iv ((n : Int) * 65536), iv (a * 65536), iv ((b - a) * 65536)]] W fun e w' => e = .returned (.tuple #[iv y, .bool bk1, .bool on]) ∧ Below W.heap.size W w' from fun W => way_any 0 (by decide) (x := ps * 65536 + fr) (by omega) (by omega) hs (by omega) (show 0 ≤ a * 65536 by omega) (by omega) (show 0 ≤ (b - a) * 65536 by omega) (by omega) (fun h => by have := hlt h; omega) hy W)
  have KA := Lib.hid (show ∀ W : World, W.heap[g]? = some (.cells (s.cs A n c0) 24 (0, 0)) → Calls Try.prog 65 #[.pointer (some ⟨g, 0, none⟩), .bool held] W fun e w' => e = .returned (.tuple #[iv 0, iv a, iv b]) ∧ ∃ m, w' = W.drewN m from fun W hW => by
    have := applies_any s A n c0 g held W hW
    rw [hr] at this
    exact this)
  have HP := Lib.hid hP
  have HY := Lib.hid hy0
  have P0 := Lib.hid (show ((w.alloc (Obj.cells #[iv ps, iv fr, .bool bk, .bool false] 26)).alloc (Obj.cells #[iv 0, iv 0, .bool false, .bool false] 26)).heap[g]? = some (.cells (s.cs A n c0) 24 (0, 0)) from bkAlloc (bkAlloc hP (Obj.cells (Cur.cs ⟨ps, fr, bk, false⟩) 26)) (Obj.cells (Cur.cs Cur.zero) 26))
  clear hP hr hy hlt hab hp hs hs1 hy0
  unfold Cur.cs
  go_enter Try.func62, Try.ntmps62
  go_upto_region 5 with (go_at_call 65; (with_reducible refine (KA.out _ P0.out).mono ?_); rintro e w1 ⟨rfl, m, rfl⟩)
  have E1 : ((((w.alloc (Obj.cells #[iv ps, iv fr, .bool bk, .bool false] 26)).alloc (Obj.cells #[iv 0, iv 0, .bool false, .bool false] 26)).drewN m).alloc (Obj.cells #[.func (.func 105) #[] #[], .func (.func 106) #[] #[], .func (.func 107) #[] #[]] 100)).heap[w.heap.size]? = some (.cells #[iv ps, iv fr, .bool bk, .bool false] 26 (0, 0)) := bkAlloc (show (((w.alloc (Obj.cells #[iv ps, iv fr, .bool bk, .bool false] 26)).alloc (Obj.cells #[iv 0, iv 0, .bool false, .bool false] 26)).drewN m).heap[w.heap.size]? = _ from heap_alloc2_old w _ _) _
  have E2 : ((((w.alloc (Obj.cells #[iv ps, iv fr, .bool bk, .bool false] 26)).alloc (Obj.cells #[iv 0, iv 0, .bool false, .bool false] 26)).drewN m).alloc (Obj.cells #[.func (.func 105) #[] #[], .func (.func 106) #[] #[], .func (.func 107) #[] #[]] 100)).heap[w.heap.size + 1]? = some (.cells (Cur.cs Cur.zero) 26 (0, 0)) := bkAlloc (show (((w.alloc (Obj.cells #[iv ps, iv fr, .bool bk, .bool false] 26)).alloc (Obj.cells #[iv 0, iv 0, .bool false, .bool false] 26)).drewN m).heap[w.heap.size + 1]? = _ from heap_alloc2_new w _ _) _
  have E3 : ((((w.alloc (Obj.cells #[iv ps, iv fr, .bool bk, .bool false] 26)).alloc (Obj.cells #[iv 0, iv 0, .bool false, .bool false] 26)).drewN m).alloc (Obj.cells #[.func (.func 105) #[] #[], .func (.func 106) #[] #[], .func (.func 107) #[] #[]] 100)).heap[w.heap.size + 1 + 1]? = some (.cells #[.func (.func 105) #[] #[], .func (.func 106) #[] #[], .func (.func 107) #[] #[]] 100 (0, 0)) := by
    have := heap_alloc_new (((w.alloc (Obj.cells #[iv ps, iv fr, .bool bk, .bool false] 26)).alloc (Obj.cells #[iv 0, iv 0, .bool false, .bool false] 26)).drewN m) (Obj.cells #[.func (.func 105) #[] #[], .func (.func 106) #[] #[], .func (.func 107) #[] #[]] 100)
    simpa using this
  have E4 : ((((w.alloc (Obj.cells #[iv ps, iv fr, .bool bk, .bool false] 26)).alloc (Obj.cells #[iv 0, iv 0, .bool false, .bool false] 26)).drewN m).alloc (Obj.cells #[.func (.func 105) #[] #[], .func (.func 106) #[] #[], .func (.func 107) #[] #[]] 100)).heap[g]? = some (.cells (s.cs A n c0) 24 (0, 0)) := bkAlloc (show (((w.alloc (Obj.cells #[iv ps, iv fr, .bool bk, .bool false] 26)).alloc (Obj.cells #[iv 0, iv 0, .bool false, .bool false] 26)).drewN m).heap[g]? = _ from P0.out) _
  have q0 := Lib.hid (show ((((w.alloc (Obj.cells #[iv ps, iv fr, .bool bk, .bool false] 26)).alloc (Obj.cells #[iv 0, iv 0, .bool false, .bool false] 26)).drewN m).alloc (Obj.cells #[.func (.func 105) #[] #[], .func (.func 106) #[] #[], .func (.func 107) #[] #[]] 100)).cell? ⟨w.heap.size, 0, none⟩ = some (iv ps) from (bkCell E1 0).trans rfl)
  have q1 := Lib.hid (show ((((w.alloc (Obj.cells #[iv ps, iv fr, .bool bk, .bool false] 26)).alloc (Obj.cells #[iv 0, iv 0, .bool false, .bool false] 26)).drewN m).alloc (Obj.cells #[.func (.func 105) #[] #[], .func (.func 106) #[] #[], .func (.func 107) #[] #[]] 100)).cell? ⟨w.heap.size, 1, none⟩ = some (iv fr) from (bkCell E1 1).trans rfl)
  have q2 := Lib.hid (show ((((w.alloc (Obj.cells #[iv ps, iv fr, .bool bk, .bool false] 26)).alloc (Obj.cells #[iv 0, iv 0, .bool false, .bool false] 26)).drewN m).alloc (Obj.cells #[.func (.func 105) #[] #[], .func (.func 106) #[] #[], .func (.func 107) #[] #[]] 100)).cell? ⟨w.heap.size, 2, none⟩ = some (.bool bk) from (bkCell E1 2).trans rfl)
  have q3 := Lib.hid (show ((((w.alloc (Obj.cells #[iv ps, iv fr, .bool bk, .bool false] 26)).alloc (Obj.cells #[iv 0, iv 0, .bool false, .bool false] 26)).drewN m).alloc (Obj.cells #[.func (.func 105) #[] #[], .func (.func 106) #[] #[], .func (.func 107) #[] #[]] 100)).cell? ⟨g, 1, none⟩ = some (.slice A n c0) from (bkCell E4 1).trans rfl)
  have q4 := Lib.hid (show ((((w.alloc (Obj.cells #[iv ps, iv fr, .bool bk, .bool false] 26)).alloc (Obj.cells #[iv 0, iv 0, .bool false, .bool false] 26)).drewN m).alloc (Obj.cells #[.func (.func 105) #[] #[], .func (.func 106) #[] #[], .func (.func 107) #[] #[]] 100)).cell? ⟨w.heap.size + 1 + 1, 0, none⟩ = some (.func (.func 105) #[] #[]) from (bkCell E3 0).trans rfl)
  have q5 := Lib.hid E2
  have q6 := Lib.hid (show Below w.heap.size w ((((w.alloc (Obj.cells #[iv ps, iv fr, .bool bk, .bool false] 26)).alloc (Obj.cells #[iv 0, iv 0, .bool false, .bool false] 26)).drewN m).alloc (Obj.cells #[.func (.func 105) #[] #[], .func (.func 106) #[] #[], .func (.func 107) #[] #[]] 100)) from (bdN (((Below.refl _ _).alloc (Nat.le_refl _) _).alloc (by simp) _) m).alloc (by simp; omega) _)
  clear E1 E2 E3 E4
  obtain ⟨f1, f2, f3, f4, f5, f6⟩ := hF.out
  clear hF KA HP P0
  refine start_ (n := 33) (S := fun w' => w'.cell? ⟨w.heap.size, 0, none⟩ = some (iv ps) ∧ w'.cell? ⟨w.heap.size, 1, none⟩ = some (iv fr) ∧ w'.cell? ⟨w.heap.size, 2, none⟩ = some (.bool bk) ∧ w'.cell? ⟨g, 1, none⟩ = some (.slice A n c0) ∧ w'.cell? ⟨w.heap.size + 1 + 1, 0, none⟩ = some (.func (.func 105) #[] #[]) ∧ w'.heap[w.heap.size + 1]? = some (.cells (Cur.cs Cur.zero) 26 (0, 0)) ∧ Below w.heap.size w w') (ds := [25]) #[false, false, false, false, false, false, false, false, false, false, false, false, false, false, false, false, false, false, false, false, false, false, false, false, false, false, false, false, false, false, false, false, false] (by kernel_rfl) rfl rfl ⟨q0.out, q1.out, q2.out, q3.out, q4.out, q5.out, q6.out.drew⟩ (fun hHeld => ?_)
  refine pure_ (i := 0) (N := some 28) (v := ?_) (a' := ?_) #[true, false, false, false, false, false, false, false, false, false, false, false, false, false, false, false, false, false, false, false, false, false, false, false, false, false, false, false, false, false, false, false, false] rfl rfl (by kernel_rfl) (fun _ _ _ h => h) (Or.inl ⟨by rfl, ?_⟩) ?_ ?_
  rotate_left
  · intro w'
    go_simp
    with_reducible rfl
  rotate_left
  · simp only [Act.put, List.setIfInBounds_toArray, List.set_cons_zero, List.set_cons_succ, i64_w, i32_w, f1, f2, f3, f4, f5, f6]
    rfl
  refine pure_ (i := 1) (N := some 29) (v := ?_) (a' := ?_) #[true, true, false, false, false, false, false, false, false, false, false, false, false, false, false, false, false, false, false, false, false, false, false, false, false, false, false, false, false, false, false, false, false] rfl rfl (by kernel_rfl) (fun _ _ _ h => h) (Or.inl ⟨by rfl, ?_⟩) ?_ ?_
  rotate_left
  · intro w'
    go_simp
    with_reducible rfl
  rotate_left
  · simp only [Act.put, List.setIfInBounds_toArray, List.set_cons_zero, List.set_cons_succ, i64_w, i32_w, f1, f2, f3, f4, f5, f6]
    rfl
  refine pure_ (i := 3) (N := some 31) (v := ?_) (a' := ?_) #[true, true, false, true, false, false, false, false, false, false, false, false, false, false, false, false, false, false, false, false, false, false, false, false, false, false, false, false, false, false, false, false, false] rfl rfl (by kernel_rfl) (fun _ _ _ h => h) (Or.inl ⟨by rfl, ?_⟩) ?_ ?_
  rotate_left
  · intro w'
    go_simp
    with_reducible rfl
  rotate_left
  · simp only [Act.put, List.setIfInBounds_toArray, List.set_cons_zero, List.set_cons_succ, i64_w, i32_w, f1, f2, f3, f4, f5, f6]
    rfl
  refine pure_ (i := 6) (N := some 34) (v := ?_) (a' := ?_) #[true, true, false, true, false, false, true, false, false, false, false, false, false, false, false, false, false, false, false, false, false, false, false, false, false, false, false, false, false, false, false, false, false] rfl rfl (by kernel_rfl) (fun _ _ _ h => h) (Or.inl ⟨by rfl, ?_⟩) ?_ ?_
  rotate_left
  · intro w'
    go_simp
    with_reducible rfl
  rotate_left
  · simp only [Act.put, List.setIfInBounds_toArray, List.set_cons_zero, List.set_cons_succ, i64_w, i32_w, f1, f2, f3, f4, f5, f6]
    rfl
  refine pure_ (i := 9) (N := some 37) (v := ?_) (a' := ?_) #[true, true, false, true, false, false, true, false, false, true, false, false, false, false, false, false, false, false, false, false, false, false, false, false, false, false, false, false, false, false, false, false, false] rfl rfl (by kernel_rfl) (fun _ _ _ h => h) (Or.inl ⟨by rfl, ?_⟩) ?_ ?_
  rotate_left
  · intro w'
    go_simp
    with_reducible rfl
  rotate_left
  · simp only [Act.put, List.setIfInBounds_toArray, List.set_cons_zero, List.set_cons_succ, i64_w, i32_w, f1, f2, f3, f4, f5, f6]
    rfl
  refine pure_ (i := 10) (N := some 38) (v := ?_) (a' := ?_) #[true, true, false, true, false, false, true, false, false, true, true, false, false, false, false, false, false, false, false, false, false, false, false, false, false, false, false, false, false, false, false, false, false] rfl rfl (by kernel_rfl) (fun _ _ _ h => h) (Or.inl ⟨by rfl, ?_⟩) ?_ ?_
  rotate_left
  · intro w'
    go_simp
    with_reducible rfl
  rotate_left
  · simp only [Act.put, List.setIfInBounds_toArray, List.set_cons_zero, List.set_cons_succ, i64_w, i32_w, f1, f2, f3, f4, f5, f6]
    rfl
  refine pure_ (i := 12) (N := some 40) (v := ?_) (a' := ?_) #[true, true, false, true, false, false, true, false, false, true, true, false, true, false, false, false, false, false, false, false, false, false, false, false, false, false, false, false, false, false, false, false, false] rfl rfl (by kernel_rfl) (fun _ _ _ h => h) (Or.inl ⟨by rfl, ?_⟩) ?_ ?_
  rotate_left
  · intro w'
    go_simp
    with_reducible rfl
  rotate_left
  · simp only [Act.put, List.setIfInBounds_toArray, List.set_cons_zero, List.set_cons_succ, i64_w, i32_w, f1, f2, f3, f4, f5, f6]
    rfl
  refine pure_ (i := 13) (N := some 41) (v := ?_) (a' := ?_) #[true, true, false, true, false, false, true, false, false, true, true, false, true, true, false, false, false, false, false, false, false, false, false, false, false, false, false, false, false, false, false, false, false] rfl rfl (by kernel_rfl) (fun _ _ _ h => h) (Or.inl ⟨by rfl, ?_⟩) ?_ ?_
  rotate_left
  · intro w'
    go_simp
    with_reducible rfl
  rotate_left
  · simp only [Act.put, List.setIfInBounds_toArray, List.set_cons_zero, List.set_cons_succ, i64_w, i32_w, f1, f2, f3, f4, f5, f6]
    rfl
  refine pure_ (i := 14) (N := some 42) (v := ?_) (a' := ?_) #[true, true, false, true, false, false, true, false, false, true, true, false, true, true, true, false, false, false, false, false, false, false, false, false, false, false, false, false, false, false, false, false, false] rfl rfl (by kernel_rfl) (fun _ _ _ h => h) (Or.inl ⟨by rfl, ?_⟩) ?_ ?_
  rotate_left
  · intro w'
    go_simp
    with_reducible rfl
  rotate_left
  · simp only [Act.put, List.setIfInBounds_toArray, List.set_cons_zero, List.set_cons_succ, i64_w, i32_w, f1, f2, f3, f4, f5, f6]
    rfl
  refine pure_ (i := 18) (N := some 46) (v := ?_) (a' := ?_) #[true, true, false, true, false, false, true, false, false, true, true, false, true, true, true, false, false, false, true, false, false, false, false, false, false, false, false, false, false, false, false, false, false] rfl rfl (by kernel_rfl) (fun _ _ _ h => h) (Or.inl ⟨by rfl, ?_⟩) ?_ ?_
  rotate_left
  · intro w'
    go_simp
    with_reducible rfl
  rotate_left
  · simp only [Act.put, List.setIfInBounds_toArray, List.set_cons_zero, List.set_cons_succ, i64_w, i32_w, f1, f2, f3, f4, f5, f6]
    rfl
  refine pure_ (i := 19) (N := some 47) (v := ?_) (a' := ?_) #[true, true, false, true, false, false, true, false, false, true, true, false, true, true, true, false, false, false, true, true, false, false, false, false, false, false, false, false, false, false, false, false, false] rfl rfl (by kernel_rfl) (fun _ _ _ h => h) (Or.inl ⟨by rfl, ?_⟩) ?_ ?_
  rotate_left
  · intro w'
    go_simp
    with_reducible rfl
  rotate_left
  · simp only [Act.put, List.setIfInBounds_toArray, List.set_cons_zero, List.set_cons_succ, i64_w, i32_w, f1, f2, f3, f4, f5, f6]
    rfl
  refine pure_ (i := 20) (N := some 48) (v := ?_) (a' := ?_) #[true, true, false, true, false, false, true, false, false, true, true, false, true, true, true, false, false, false, true, true, true, false, false, false, false, false, false, false, false, false, false, false, false] rfl rfl (by kernel_rfl) (fun _ _ _ h => h) (Or.inl ⟨by rfl, ?_⟩) ?_ ?_
  rotate_left
  · intro w'
    go_simp
    with_reducible rfl
  rotate_left
  · simp only [Act.put, List.setIfInBounds_toArray, List.set_cons_zero, List.set_cons_succ, i64_w, i32_w, f1, f2, f3, f4, f5, f6]
    rfl
  refine pure_ (i := 21) (N := some 49) (v := ?_) (a' := ?_) #[true, true, false, true, false, false, true, false, false, true, true, false, true, true, true, false, false, false, true, true, true, true, false, false, false, false, false, false, false, false, false, false, false] rfl rfl (by kernel_rfl) (fun _ _ _ h => h) (Or.inl ⟨by rfl, ?_⟩) ?_ ?_
  rotate_left
  · intro w'
    go_simp
    with_reducible rfl
  rotate_left
  · simp only [Act.put, List.setIfInBounds_toArray, List.set_cons_zero, List.set_cons_succ, i64_w, i32_w, f1, f2, f3, f4, f5, f6]
    rfl
  refine pure_ (i := 22) (N := some 50) (v := ?_) (a' := ?_) #[true, true, false, true, false, false, true, false, false, true, true, false, true, true, true, false, false, false, true, true, true, true, true, false, false, false, false, false, false, false, false, false, false] rfl rfl (by kernel_rfl) (fun _ _ _ h => h) (Or.inl ⟨by rfl, ?_⟩) ?_ ?_
  rotate_left
  · intro w'
    go_simp
    with_reducible rfl
  rotate_left
  · simp only [Act.put, List.setIfInBounds_toArray, List.set_cons_zero, List.set_cons_succ, i64_w, i32_w, f1, f2, f3, f4, f5, f6]
    rfl
  refine pure_ (i := 23) (N := some 51) (v := ?_) (a' := ?_) #[true, true, false, true, false, false, true, false, false, true, true, false, true, true, true, false, false, false, true, true, true, true, true, true, false, false, false, false, false, false, false, false, false] rfl rfl (by kernel_rfl) (fun _ _ _ h => h) (Or.inl ⟨by rfl, ?_⟩) ?_ ?_
  rotate_left
  · intro w'
    go_simp
    with_reducible rfl
  rotate_left
  · simp only [Act.put, List.setIfInBounds_toArray, List.set_cons_zero, List.set_cons_succ, i64_w, i32_w, f1, f2, f3, f4, f5, f6]
    rfl
  refine take_ (i := 2) (N := some 30) (v := ?_) (a' := ?_) #[true, true, true, true, false, false, true, false, false, true, true, false, true, true, true, false, false, false, true, true, true, true, true, true, false, false, false, false, false, false, false, false, false] rfl rfl (by kernel_rfl) (fun _ _ _ h => h) (Or.inl ⟨by rfl, ?_⟩) hHeld ?_ ?_
  rotate_left
  · rintro w' ⟨s0, s1, s2, s3, s4, s5, s6⟩
    go_simp
    with_reducible rfl
  rotate_left
  · simp only [Act.put, List.setIfInBounds_toArray, List.set_cons_zero, List.set_cons_succ, i64_w, i32_w, f1, f2, f3, f4, f5, f6]
    rfl
  refine take_ (i := 4) (N := some 32) (v := ?_) (a' := ?_) #[true, true, true, true, true, false, true, false, false, true, true, false, true, true, true, false, false, false, true, true, true, true, true, true, false, false, false, false, false, false, false, false, false] rfl rfl (by kernel_rfl) (fun _ _ _ h => h) (Or.inl ⟨by rfl, ?_⟩) hHeld ?_ ?_
  rotate_left
  · rintro w' ⟨s0, s1, s2, s3, s4, s5, s6⟩
    go_simp
    with_reducible rfl
  rotate_left
  · simp only [Act.put, List.setIfInBounds_toArray, List.set_cons_zero, List.set_cons_succ, i64_w, i32_w, f1, f2, f3, f4, f5, f6]
    rfl
  refine pure_ (i := 5) (N := some 33) (v := ?_) (a' := ?_) #[true, true, true, true, true, true, true, false, false, true, true, false, true, true, true, false, false, false, true, true, true, true, true, true, false, false, false, false, false, false, false, false, false] rfl rfl (by kernel_rfl) (fun _ _ _ h => h) (Or.inl ⟨by rfl, ?_⟩) ?_ ?_
  rotate_left
  · intro w'
    go_simp
    with_reducible rfl
  rotate_left
  · simp only [Act.put, List.setIfInBounds_toArray, List.set_cons_zero, List.set_cons_succ, i64_w, i32_w, f1, f2, f3, f4, f5, f6]
    rfl
  refine take_ (i := 7) (N := some 35) (v := ?_) (a' := ?_) #[true, true, true, true, true, true, true, true, false, true, true, false, true, true, true, false, false, false, true, true, true, true, true, true, false, false, false, false, false, false, false, false, false] rfl rfl (by kernel_rfl) (fun _ _ _ h => h) (Or.inl ⟨by rfl, ?_⟩) hHeld ?_ ?_
  rotate_left
  · rintro w' ⟨s0, s1, s2, s3, s4, s5, s6⟩
    go_simp
    with_reducible rfl
  rotate_left
  · simp only [Act.put, List.setIfInBounds_toArray, List.set_cons_zero, List.set_cons_succ, i64_w, i32_w, f1, f2, f3, f4, f5, f6]
    rfl
  refine pure_ (i := 8) (N := some 36) (v := ?_) (a' := ?_) #[true, true, true, true, true, true, true, true, true, true, true, false, true, true, true, false, false, false, true, true, true, true, true, true, false, false, false, false, false, false, false, false, false] rfl rfl (by kernel_rfl) (fun _ _ _ h => h) (Or.inl ⟨by rfl, ?_⟩) ?_ ?_
  rotate_left
  · intro w'
    go_simp
    with_reducible rfl
  rotate_left
  · simp only [Act.put, List.setIfInBounds_toArray, List.set_cons_zero, List.set_cons_succ, i64_w, i32_w, f1, f2, f3, f4, f5, f6]
    rfl
  refine take_ (i := 11) (N := some 39) (v := ?_) (a' := ?_) #[true, true, true, true, true, true, true, true, true, true, true, true, true, true, true, false, false, false, true, true, true, true, true, true, false, false, false, false, false, false, false, false, false] rfl rfl (by kernel_rfl) (fun _ _ _ h => h) (Or.inl ⟨by rfl, ?_⟩) hHeld ?_ ?_
  rotate_left
  · rintro w' ⟨s0, s1, s2, s3, s4, s5, s6⟩
    go_simp
    with_reducible rfl
  rotate_left
  · simp only [Act.put, List.setIfInBounds_toArray, List.set_cons_zero, List.set_cons_succ, i64_w, i32_w, f1, f2, f3, f4, f5, f6]
    rfl
  refine take_ (i := 15) (N := some 43) (v := ?_) (a' := ?_) #[true, true, true, true, true, true, true, true, true, true, true, true, true, true, true, true, false, false, true, true, true, true, true, true, false, false, false, false, false, false, false, false, false] rfl rfl (by kernel_rfl) (fun _ _ _ h => h) (Or.inl ⟨by rfl, ?_⟩) hHeld ?_ ?_
  rotate_left
  · rintro w' ⟨s0, s1, s2, s3, s4, s5, s6⟩
    go_simp
    with_reducible rfl
  rotate_left
  · simp only [Act.put, List.setIfInBounds_toArray, List.set_cons_zero, List.set_cons_succ, i64_w, i32_w, f1, f2, f3, f4, f5, f6]
    rfl
  refine pure_ (i := 16) (N := some 44) (v := ?_) (a' := ?_) #[true, true, true, true, true, true, true, true, true, true, true, true, true, true, true, true, true, false, true, true, true, true, true, true, false, false, false, false, false, false, false, false, false] rfl rfl (by kernel_rfl) (fun _ _ _ h => h) (Or.inl ⟨by rfl, ?_⟩) ?_ ?_
  rotate_left
  · intro w'
    go_simp
    with_reducible rfl
  rotate_left
  · simp only [Act.put, List.setIfInBounds_toArray, List.set_cons_zero, List.set_cons_succ, i64_w, i32_w, f1, f2, f3, f4, f5, f6]
    rfl
  refine pure_ (i := 17) (N := some 45) (v := ?_) (a' := ?_) #[true, true, true, true, true, true, true, true, true, true, true, true, true, true, true, true, true, true, true, true, true, true, true, true, false, false, false, false, false, false, false, false, false] rfl rfl (by kernel_rfl) (fun _ _ _ h => h) (Or.inl ⟨by rfl, ?_⟩) ?_ ?_
  rotate_left
  · intro w'
    go_simp
    with_reducible rfl
  rotate_left
  · simp only [Act.put, List.setIfInBounds_toArray, List.set_cons_zero, List.set_cons_succ, i64_w, i32_w, f1, f2, f3, f4, f5, f6]
    rfl
  refine pure_ (i := 24) (N := some 52) (v := ?_) (a' := ?_) #[true, true, true, true, true, true, true, true, true, true, true, true, true, true, true, true, true, true, true, true, true, true, true, true, true, false, false, false, false, false, false, false, false] rfl rfl (by kernel_rfl) (fun _ _ _ h => h) (Or.inl ⟨by rfl, ?_⟩) ?_ ?_
  rotate_left
  · intro w'
    go_simp
    with_reducible rfl
  rotate_left
  · simp only [Act.put, List.setIfInBounds_toArray, List.set_cons_zero, List.set_cons_succ, i64_w, i32_w, f1, f2, f3, f4, f5, f6]
    rfl
  refine last_ (i := 25) (N := some 53) #[true, true, true, true, true, true, true, true, true, true, true, true, true, true, true, true, true, true, true, true, true, true, true, true, true, true, false, false, false, false, false, false, false] rfl rfl (by kernel_rfl) (by decide) (fun K hK => ?_)
  obtain ⟨s0, s1, s2, s3, s4, s5, s6⟩ := hHeld
  refine goesV_ 105 Try.func105 (by kernel_rfl) rfl #[iv (ps * 65536 + fr), iv step, .bool bk, .agg #[iv ((n : Int) * 65536), iv (a * 65536), iv ((b - a) * 65536)]] (by rfl) rfl rfl (by rfl) (by simp only [List.map_toArray, List.map_cons, List.map_nil]; rfl) ?_
  with_reducible refine (WC.out _).mono ?_
  rintro e w4 ⟨rfl, hb4⟩
  refine ⟨_, rfl, ?_⟩
  have P4 := Lib.hid (And.intro (bkBelow s5 hb4) (bdT s6 s6.size hb4))
  clear s0 s1 s2 s3 s4 s5 s6
  refine hK.out _ _ ?_
  clear hK K
  refine norm_ (a' := ?_) ?_ ?_
  rotate_left
  · show Act.put _ (some 53) _ = _
    simp only [Act.put, List.setIfInBounds_toArray, List.set_cons_zero, List.set_cons_succ, i64_w, i32_w, f1, f2, f3, f4, f5, f6]
    rfl
  refine pure_ (i := 26) (N := some 27) (v := ?_) (a' := ?_) #[true, true, true, true, true, true, true, true, true, true, true, true, true, true, true, true, true, true, true, true, true, true, true, true, true, true, true, false, false, false, false, false, false] rfl rfl (by kernel_rfl) (fun _ _ _ h => h) (Or.inl ⟨by rfl, ?_⟩) ?_ ?_
  rotate_left
  · intro w'
    go_simp
    with_reducible rfl
  rotate_left
  · simp only [Act.put, List.setIfInBounds_toArray, List.set_cons_zero, List.set_cons_succ, i64_w, i32_w, f1, f2, f3, f4, f5, f6]
    rfl
  refine pure_ (i := 27) (N := some 54) (v := ?_) (a' := ?_) #[true, true, true, true, true, true, true, true, true, true, true, true, true, true, true, true, true, true, true, true, true, true, true, true, true, true, true, true, false, false, false, false, false] rfl rfl (by kernel_rfl) (fun _ _ _ h => h) (Or.inl ⟨by rfl, ?_⟩) ?_ ?_
  rotate_left
  · intro w'
    go_simp
    with_reducible rfl
  rotate_left
  · simp only [Act.put, List.setIfInBounds_toArray, List.set_cons_zero, List.set_cons_succ, i64_w, i32_w, f1, f2, f3, f4, f5, f6]
    rfl
  refine pure_ (i := 28) (N := some 55) (v := ?_) (a' := ?_) #[true, true, true, true, true, true, true, true, true, true, true, true, true, true, true, true, true, true, true, true, true, true, true, true, true, true, true, true, true, false, false, false, false] rfl rfl (by kernel_rfl) (fun _ _ _ h => h) (Or.inl ⟨by rfl, ?_⟩) ?_ ?_
  rotate_left
  · intro w'
    go_simp
    with_reducible rfl
  rotate_left
  · simp only [Act.put, List.setIfInBounds_toArray, List.set_cons_zero, List.set_cons_succ, i64_w, i32_w, f1, f2, f3, f4, f5, f6]
    rfl
  refine pure_ (i := 29) (N := some 56) (v := ?_) (a' := ?_) #[true, true, true, true, true, true, true, true, true, true, true, true, true, true, true, true, true, true, true, true, true, true, true, true, true, true, true, true, true, true, false, false, false] rfl rfl (by kernel_rfl) (fun _ _ _ h => h) (Or.inl ⟨by rfl, ?_⟩) ?_ ?_
  rotate_left
  · intro w'
    go_simp
    with_reducible rfl
  rotate_left
  · simp only [Act.put, List.setIfInBounds_toArray, List.set_cons_zero, List.set_cons_succ, i64_w, i32_w, f1, f2, f3, f4, f5, f6]
    rfl
  refine pure_ (i := 30) (N := some 13) (v := ?_) (a' := ?_) #[true, true, true, true, true, true, true, true, true, true, true, true, true, true, true, true, true, true, true, true, true, true, true, true, true, true, true, true, true, true, true, false, false] rfl rfl (by kernel_rfl) (fun _ _ _ h => h) (Or.inl ⟨by rfl, ?_⟩) ?_ ?_
  rotate_left
  · intro w'
    go_simp
    with_reducible rfl
  rotate_left
  · simp only [Act.put, List.setIfInBounds_toArray, List.set_cons_zero, List.set_cons_succ, i64_w, i32_w, f1, f2, f3, f4, f5, f6]
    rfl
  refine pure_ (i := 31) (N := some 14) (v := ?_) (a' := ?_) #[true, true, true, true, true, true, true, true, true, true, true, true, true, true, true, true, true, true, true, true, true, true, true, true, true, true, true, true, true, true, true, true, false] rfl rfl (by kernel_rfl) (fun _ _ _ h => h) (Or.inl ⟨by rfl, ?_⟩) ?_ ?_
  rotate_left
  · intro w'
    go_simp
    with_reducible rfl
  rotate_left
  · simp only [Act.put, List.setIfInBounds_toArray, List.set_cons_zero, List.set_cons_succ, i64_w, i32_w, f1, f2, f3, f4, f5, f6]
    rfl
  refine pure_ (i := 32) (N := some 15) (v := ?_) (a' := ?_) #[true, true, true, true, true, true, true, true, true, true, true, true, true, true, true, true, true, true, true, true, true, true, true, true, true, true, true, true, true, true, true, true, true] rfl rfl (by kernel_rfl) (fun _ _ _ h => h) (Or.inl ⟨by rfl, ?_⟩) ?_ ?_
  rotate_left
  · intro w'
    go_simp
    with_reducible rfl
  rotate_left
  · simp only [Act.put, List.setIfInBounds_toArray, List.set_cons_zero, List.set_cons_succ, i64_w, i32_w, f1, f2, f3, f4, f5, f6]
    rfl
  refine done_ (by kernel_rfl) ?_
  clear f1 f2 f3 f4 f5 f6 q0 q1 q2 q3 q4 q5 q6
  have hlt := bkLt P4.out.1
  cases on
  · go_wp2_with (refine wpList_store_row rfl 26 (.tmp 8) (.tmp 59) rfl (w.heap.size + 1) (Cur.cs Cur.over) rfl rfl 26 _ P4.out.1 (Cur.i26 _) (Cur.sz _ _) (Cur.one _) ?_)
    refine bodyPost_ret (results_cell_row rfl _ _ (w.heap.size + 1) 26 _ (0, 0) _ rfl (setRow_heap _ _ _ _ _ _ P4.out.1) Try.underlying26 rfl (Cur.i26 _)) rfl ⟨rfl, below_setRow P4.out.2 (by omega) _⟩
  · obtain ⟨hy0, hy1⟩ := HY.out rfl
    have y1 : 0 ≤ y / 65536 := by omega
    have y2 : y / 65536 ≤ 1000000000000 := by omega
    go_wp2_with (refine wpList_store_row rfl 26 (.tmp 8) (.tmp 65) rfl (w.heap.size + 1) (Cur.cs (stand (y, bk1, true))) rfl rfl 26 _ P4.out.1 (Cur.i26 _) (Cur.sz _ _) (Cur.one _) ?_)
    refine bodyPost_ret (results_cell_row rfl _ _ (w.heap.size + 1) 26 _ (0, 0) _ rfl (setRow_heap _ _ _ _ _ _ P4.out.1) Try.underlying26 rfl (Cur.i26 _)) rfl ⟨rfl, below_setRow P4.out.2 (by omega) _⟩
set_option maxHeartbeats 4000000 in
set_option maxRecDepth 100000 in
theorem move_1 (s : S) (A : Option Addr) (n c0 g : Nat) (ps fr : Int) (bk : Bool) (step : Int) (held : Bool) (a b : Int) (hr : rgS s held = (1, a, b)) (y : Int) (bk1 on : Bool) (hn : n ≤ 4096) (hs : 0 ≤ step) (hs1 : step ≤ 268435456) (hp : 0 ≤ ps ∧ ps < n ∧ 0 ≤ fr ∧ fr < 65536) (hab : 0 ≤ a ∧ a ≤ b ∧ b ≤ 4096) (hlt : (1 : Int) ≠ 0 → a < b)
    (hy : wayM 1 (ps * 65536 + fr) step bk ((n : Int) * 65536) (a * 65536) ((b - a) * 65536) = (y, bk1, on)) (hy0 : on = true → 0 ≤ y ∧ y ≤ 1000000000000) (w : World) (hP : w.heap[g]? = some (.cells (s.cs A n c0) 24 (0, 0))) :
    Calls Try.prog 62 #[.pointer (some ⟨g, 0, none⟩), .agg (Cur.cs ⟨ps, fr, bk, false⟩), iv step, .bool held] w fun e w' => e = .returned (.agg (Cur.cs (stand (y, bk1, on)))) ∧ Below w.heap.size w w' := by
  have f1 : wrap64 (ps * 65536) = ps * 65536 := wrap_in (by omega) (by omega)
  have f2 : wrap64 (ps * 65536 + fr) = ps * 65536 + fr := wrap_in (by omega) (by omega)
  have f3 : wrap64 ((n : Int) * 65536) = (n : Int) * 65536 := wrap_in (by omega) (by omega)
  have f4 : wrap64 (a * 65536) = a * 65536 := wrap_in (by omega) (by omega)
  have f5 : wrap64 (b - a) = b - a := wrap_in (by omega) (by omega)
  have f6 : wrap64 ((b - a) * 65536) = (b - a) * 65536 := wrap_in (by omega) (by omega)
  have hF := Lib.hid (And.intro f1 (And.intro f2 (And.intro f3 (And.intro f4 (And.intro f5 f6)))))
  clear f1 f2 f3 f4 f5 f6
  have hg := bkLt hP
  have WC := Lib.hid (show ∀ W, Calls Try.prog 106 #[iv (ps * 65536 + fr), iv step, .bool bk, .agg #[iv ((n : Int) * 65536), iv (a * 65536), iv ((b - a) * 65536)]] W fun e w' => e = .returned (.tuple #[iv y, .bool bk1, .bool on]) ∧ Below W.heap.size W w' from fun W => way_any 1 (by decide) (x := ps * 65536 + fr) (by omega) (by omega) hs (by omega) (show 0 ≤ a * 65536 by omega) (by omega) (show 0 ≤ (b - a) * 65536 by omega) (by omega) (fun h => by have := hlt h; omega) hy W)
  have KA := Lib.hid (show ∀ W : World, W.heap[g]? = some (.cells (s.cs A n c0) 24 (0, 0)) → Calls Try.prog 65 #[.pointer (some ⟨g, 0, none⟩), .bool held] W fun e w' => e = .returned (.tuple #[iv 1, iv a, iv b]) ∧ ∃ m, w' = W.drewN m from fun W hW => by
    have := applies_any s A n c0 g held W hW
    rw [hr] at this
    exact this)
  have HP := Lib.hid hP
  have HY := Lib.hid hy0
  have P0 := Lib.hid (show ((w.alloc (Obj.cells #[iv ps, iv fr, .bool bk, .bool false] 26)).alloc (Obj.cells #[iv 0, iv 0, .bool false, .bool false] 26)).heap[g]? = some (.cells (s.cs A n c0) 24 (0, 0)) from bkAlloc (bkAlloc hP (Obj.cells (Cur.cs ⟨ps, fr, bk, false⟩) 26)) (Obj.cells (Cur.cs Cur.zero) 26))
  clear hP hr hy hlt hab hp hs hs1 hy0
  unfold Cur.cs
  go_enter Try.func62, Try.ntmps62
  go_upto_region 5 with (go_at_call 65; (with_reducible refine (KA.out _ P0.out).mono ?_); rintro e w1 ⟨rfl, m, rfl⟩)
  have E1 : ((((w.alloc (Obj.cells #[iv ps, iv fr, .bool bk, .bool false] 26)).alloc (Obj.cells #[iv 0, iv 0, .bool false, .bool false] 26)).drewN m).alloc (Obj.cells #[.func (.func 105) #[] #[], .func (.func 106) #[] #[], .func (.func 107) #[] #[]] 100)).heap[w.heap.size]? = some (.cells #[iv ps, iv fr, .bool bk, .bool false] 26 (0, 0)) := bkAlloc (show (((w.alloc (Obj.cells #[iv ps, iv fr, .bool bk, .bool false] 26)).alloc (Obj.cells #[iv 0, iv 0, .bool false, .bool false] 26)).drewN m).heap[w.heap.size]? = _ from heap_alloc2_old w _ _) _
  have E2 : ((((w.alloc (Obj.cells #[iv ps, iv fr, .bool bk, .bool false] 26)).alloc (Obj.cells #[iv 0, iv 0, .bool false, .bool false] 26)).drewN m).alloc (Obj.cells #[.func (.func 105) #[] #[], .func (.func 106) #[] #[], .func (.func 107) #[] #[]] 100)).heap[w.heap.size + 1]? = some (.cells (Cur.cs Cur.zero) 26 (0, 0)) := bkAlloc (show (((w.alloc (Obj.cells #[iv ps, iv fr, .bool bk, .bool false] 26)).alloc (Obj.cells #[iv 0, iv 0, .bool false, .bool false] 26)).drewN m).heap[w.heap.size + 1]? = _ from heap_alloc2_new w _ _) _
  have E3 : ((((w.alloc (Obj.cells #[iv ps, iv fr, .bool bk, .bool false] 26)).alloc (Obj.cells #[iv 0, iv 0, .bool false, .bool false] 26)).drewN m).alloc (Obj.cells #[.func (.func 105) #[] #[], .func (.func 106) #[] #[], .func (.func 107) #[] #[]] 100)).heap[w.heap.size + 1 + 1]? = some (.cells #[.func (.func 105) #[] #[], .func (.func 106) #[] #[], .func (.func 107) #[] #[]] 100 (0, 0)) := by
    have := heap_alloc_new (((w.alloc (Obj.cells #[iv ps, iv fr, .bool bk, .bool false] 26)).alloc (Obj.cells #[iv 0, iv 0, .bool false, .bool false] 26)).drewN m) (Obj.cells #[.func (.func 105) #[] #[], .func (.func 106) #[] #[], .func (.func 107) #[] #[]] 100)
    simpa using this
  have E4 : ((((w.alloc (Obj.cells #[iv ps, iv fr, .bool bk, .bool false] 26)).alloc (Obj.cells #[iv 0, iv 0, .bool false, .bool false] 26)).drewN m).alloc (Obj.cells #[.func (.func 105) #[] #[], .func (.func 106) #[] #[], .func (.func 107) #[] #[]] 100)).heap[g]? = some (.cells (s.cs A n c0) 24 (0, 0)) := bkAlloc (show (((w.alloc (Obj.cells #[iv ps, iv fr, .bool bk, .bool false] 26)).alloc (Obj.cells #[iv 0, iv 0, .bool false, .bool false] 26)).drewN m).heap[g]? = _ from P0.out) _
  have q0 := Lib.hid (show ((((w.alloc (Obj.cells #[iv ps, iv fr, .bool bk, .bool false] 26)).alloc (Obj.cells #[iv 0, iv 0, .bool false, .bool false] 26)).drewN m).alloc (Obj.cells #[.func (.func 105) #[] #[], .func (.func 106) #[] #[], .func (.func 107) #[] #[]] 100)).cell? ⟨w.heap.size, 0, none⟩ = some (iv ps) from (bkCell E1 0).trans rfl)
  have q1 := Lib.hid (show ((((w.alloc (Obj.cells #[iv ps, iv fr, .bool bk, .bool false] 26)).alloc (Obj.cells #[iv 0, iv 0, .bool false, .bool false] 26)).drewN m).alloc (Obj.cells #[.func (.func 105) #[] #[], .func (.func 106) #[] #[], .func (.func 107) #[] #[]] 100)).cell? ⟨w.heap.size, 1, none⟩ = some (iv fr) from (bkCell E1 1).trans rfl)
  have q2 := Lib.hid (show ((((w.alloc (Obj.cells #[iv ps, iv fr, .bool bk, .bool false] 26)).alloc (Obj.cells #[iv 0, iv 0, .bool false, .bool false] 26)).drewN m).alloc (Obj.cells #[.func (.func 105) #[] #[], .func (.func 106) #[] #[], .func (.func 107) #[] #[]] 100)).cell? ⟨w.heap.size, 2, none⟩ = some (.bool bk) from (bkCell E1 2).trans rfl)
  have q3 := Lib.hid (show ((((w.alloc (Obj.cells #[iv ps, iv fr, .bool bk, .bool false] 26)).alloc (Obj.cells #[iv 0, iv 0, .bool false, .bool false] 26)).drewN m).alloc (Obj.cells #[.func (.func 105) #[] #[], .func (.func 106) #[] #[], .func (.func 107) #[] #[]] 100)).cell? ⟨g, 1, none⟩ = some (.slice A n c0) from (bkCell E4 1).trans rfl)
  have q4 := Lib.hid (show ((((w.alloc (Obj.cells #[iv ps, iv fr, .bool bk, .bool false] 26)).alloc (Obj.cells #[iv 0, iv 0, .bool false, .bool false] 26)).drewN m).alloc (Obj.cells #[.func (.func 105) #[] #[], .func (.func 106) #[] #[], .func (.func 107) #[] #[]] 100)).cell? ⟨w.heap.size + 1 + 1, 1, none⟩ = some (.func (.func 106) #[] #[]) from (bkCell E3 1).trans rfl)
  have q5 := Lib.hid E2
  have q6 := Lib.hid (show Below w.heap.size w ((((w.alloc (Obj.cells #[iv ps, iv fr, .bool bk, .bool false] 26)).alloc (Obj.cells #[iv 0, iv 0, .bool false, .bool false] 26)).drewN m).alloc (Obj.cells #[.func (.func 105) #[] #[], .func (.func 106) #[] #[], .func (.func 107) #[] #[]] 100)) from (bdN (((Below.refl _ _).alloc (Nat.le_refl _) _).alloc (by simp) _) m).alloc (by simp; omega) _)
  clear E1 E2 E3 E4
  obtain ⟨f1, f2, f3, f4, f5, f6⟩ := hF.out
  clear hF KA HP P0
  refine start_ (n := 33) (S := fun w' => w'.cell? ⟨w.heap.size, 0, none⟩ = some (iv ps) ∧ w'.cell? ⟨w.heap.size, 1, none⟩ = some (iv fr) ∧ w'.cell? ⟨w.heap.size, 2, none⟩ = some (.bool bk) ∧ w'.cell? ⟨g, 1, none⟩ = some (.slice A n c0) ∧ w'.cell? ⟨w.heap.size + 1 + 1, 1, none⟩ = some (.func (.func 106) #[] #[]) ∧ w'.heap[w.heap.size + 1]? = some (.cells (Cur.cs Cur.zero) 26 (0, 0)) ∧ Below w.heap.size w w') (ds := [25]) #[false, false, false, false, false, false, false, false, false, false, false, false, false, false, false, false, false, false, false, false, false, false, false, false, false, false, false, false, false, false, false, false, false] (by kernel_rfl) rfl rfl ⟨q0.out, q1.out, q2.out, q3.out, q4.out, q5.out, q6.out.drew⟩ (fun hHeld => ?_)
  refine pure_ (i := 0) (N := some 28) (v := ?_) (a' := ?_) #[true, false, false, false, false, false, false, false, false, false, false, false, false, false, false, false, false, false, false, false, false, false, false, false, false, false, false, false, false, false, false, false, false] rfl rfl (by kernel_rfl) (fun _ _ _ h => h) (Or.inl ⟨by rfl, ?_⟩) ?_ ?_
  rotate_left
  · intro w'
    go_simp
    with_reducible rfl
  rotate_left
  · simp only [Act.put, List.setIfInBounds_toArray, List.set_cons_zero, List.set_cons_succ, i64_w, i32_w, f1, f2, f3, f4, f5, f6]
    rfl
  refine pure_ (i := 1) (N := some 29) (v := ?_) (a' := ?_) #[true, true, false, false, false, false, false, false, false, false, false, false, false, false, false, false, false, false, false, false, false, false, false, false, false, false, false, false, false, false, false, false, false] rfl rfl (by kernel_rfl) (fun _ _ _ h => h) (Or.inl ⟨by rfl, ?_⟩) ?_ ?_
  rotate_left
  · intro w'
    go_simp
    with_reducible rfl
  rotate_left
  · simp only [Act.put, List.setIfInBounds_toArray, List.set_cons_zero, List.set_cons_succ, i64_w, i32_w, f1, f2, f3, f4, f5, f6]
    rfl
  refine pure_ (i := 3) (N := some 31) (v := ?_) (a' := ?_) #[true, true, false, true, false, false, false, false, false, false, false, false, false, false, false, false, false, false, false, false, false, false, false, false, false, false, false, false, false, false, false, false, false] rfl rfl (by kernel_rfl) (fun _ _ _ h => h) (Or.inl ⟨by rfl, ?_⟩) ?_ ?_
  rotate_left
  · intro w'
    go_simp
    with_reducible rfl
  rotate_left
  · simp only [Act.put, List.setIfInBounds_toArray, List.set_cons_zero, List.set_cons_succ, i64_w, i32_w, f1, f2, f3, f4, f5, f6]
    rfl
  refine pure_ (i := 6) (N := some 34) (v := ?_) (a' := ?_) #[true, true, false, true, false, false, true, false, false, false, false, false, false, false, false, false, false, false, false, false, false, false, false, false, false, false, false, false, false, false, false, false, false] rfl rfl (by kernel_rfl) (fun _ _ _ h => h) (Or.inl ⟨by rfl, ?_⟩) ?_ ?_
  rotate_left
  · intro w'
    go_simp
    with_reducible rfl
  rotate_left
  · simp only [Act.put, List.setIfInBounds_toArray, List.set_cons_zero, List.set_cons_succ, i64_w, i32_w, f1, f2, f3, f4, f5, f6]
    rfl
  refine pure_ (i := 9) (N := some 37) (v := ?_) (a' := ?_) #[true, true, false, true, false, false, true, false, false, true, false, false, false, false, false, false, false, false, false, false, false, false, false, false, false, false, false, false, false, false, false, false, false] rfl rfl (by kernel_rfl) (fun _ _ _ h => h) (Or.inl ⟨by rfl, ?_⟩) ?_ ?_
  rotate_left
  · intro w'
    go_simp
    with_reducible rfl
  rotate_left
  · simp only [Act.put, List.setIfInBounds_toArray, List.set_cons_zero, List.set_cons_succ, i64_w, i32_w, f1, f2, f3, f4, f5, f6]
    rfl
  refine pure_ (i := 10) (N := some 38) (v := ?_) (a' := ?_) #[true, true, false, true, false, false, true, false, false, true, true, false, false, false, false, false, false, false, false, false, false, false, false, false, false, false, false, false, false, false, false, false, false] rfl rfl (by kernel_rfl) (fun _ _ _ h => h) (Or.inl ⟨by rfl, ?_⟩) ?_ ?_
  rotate_left
  · intro w'
    go_simp
    with_reducible rfl
  rotate_left
  · simp only [Act.put, List.setIfInBounds_toArray, List.set_cons_zero, List.set_cons_succ, i64_w, i32_w, f1, f2, f3, f4, f5, f6]
    rfl
  refine pure_ (i := 12) (N := some 40) (v := ?_) (a' := ?_) #[true, true, false, true, false, false, true, false, false, true, true, false, true, false, false, false, false, false, false, false, false, false, false, false, false, false, false, false, false, false, false, false, false] rfl rfl (by kernel_rfl) (fun _ _ _ h => h) (Or.inl ⟨by rfl, ?_⟩) ?_ ?_
  rotate_left
  · intro w'
    go_simp
    with_reducible rfl
  rotate_left
  · simp only [Act.put, List.setIfInBounds_toArray, List.set_cons_zero, List.set_cons_succ, i64_w, i32_w, f1, f2, f3, f4, f5, f6]
    rfl
  refine pure_ (i := 13) (N := some 41) (v := ?_) (a' := ?_) #[true, true, false, true, false, false, true, false, false, true, true, false, true, true, false, false, false, false, false, false, false, false, false, false, false, false, false, false, false, false, false, false, false] rfl rfl (by kernel_rfl) (fun _ _ _ h => h) (Or.inl ⟨by rfl, ?_⟩) ?_ ?_
  rotate_left
  · intro w'
    go_simp
    with_reducible rfl
  rotate_left
  · simp only [Act.put, List.setIfInBounds_toArray, List.set_cons_zero, List.set_cons_succ, i64_w, i32_w, f1, f2, f3, f4, f5, f6]
    rfl
  refine pure_ (i := 14) (N := some 42) (v := ?_) (a' := ?_) #[true, true, false, true, false, false, true, false, false, true, true, false, true, true, true, false, false, false, false, false, false, false, false, false, false, false, false, false, false, false, false, false, false] rfl rfl (by kernel_rfl) (fun _ _ _ h => h) (Or.inl ⟨by rfl, ?_⟩) ?_ ?_
  rotate_left
  · intro w'
    go_simp
    with_reducible rfl
  rotate_left
  · simp only [Act.put, List.setIfInBounds_toArray, List.set_cons_zero, List.set_cons_succ, i64_w, i32_w, f1, f2, f3, f4, f5, f6]
    rfl
  refine pure_ (i := 18) (N := some 46) (v := ?_) (a' := ?_) #[true, true, false, true, false, false, true, false, false, true, true, false, true, true, true, false, false, false, true, false, false, false, false, false, false, false, false, false, false, false, false, false, false] rfl rfl (by kernel_rfl) (fun _ _ _ h => h) (Or.inl ⟨by rfl, ?_⟩) ?_ ?_
  rotate_left
  · intro w'
    go_simp
    with_reducible rfl
  rotate_left
  · simp only [Act.put, List.setIfInBounds_toArray, List.set_cons_zero, List.set_cons_succ, i64_w, i32_w, f1, f2, f3, f4, f5, f6]
    rfl
  refine pure_ (i := 19) (N := some 47) (v := ?_) (a' := ?_) #[true, true, false, true, false, false, true, false, false, true, true, false, true, true, true, false, false, false, true, true, false, false, false, false, false, false, false, false, false, false, false, false, false] rfl rfl (by kernel_rfl) (fun _ _ _ h => h) (Or.inl ⟨by rfl, ?_⟩) ?_ ?_
  rotate_left
  · intro w'
    go_simp
    with_reducible rfl
  rotate_left
  · simp only [Act.put, List.setIfInBounds_toArray, List.set_cons_zero, List.set_cons_succ, i64_w, i32_w, f1, f2, f3, f4, f5, f6]
    rfl
  refine pure_ (i := 20) (N := some 48) (v := ?_) (a' := ?_) #[true, true, false, true, false, false, true, false, false, true, true, false, true, true, true, false, false, false, true, true, true, false, false, false, false, false, false, false, false, false, false, false, false] rfl rfl (by kernel_rfl) (fun _ _ _ h => h) (Or.inl ⟨by rfl, ?_⟩) ?_ ?_
  rotate_left
  · intro w'
    go_simp
    with_reducible rfl
  rotate_left
  · simp only [Act.put, List.setIfInBounds_toArray, List.set_cons_zero, List.set_cons_succ, i64_w, i32_w, f1, f2, f3, f4, f5, f6]
    rfl
  refine pure_ (i := 21) (N := some 49) (v := ?_) (a' := ?_) #[true, true, false, true, false, false, true, false, false, true, true, false, true, true, true, false, false, false, true, true, true, true, false, false, false, false, false, false, false, false, false, false, false] rfl rfl (by kernel_rfl) (fun _ _ _ h => h) (Or.inl ⟨by rfl, ?_⟩) ?_ ?_
  rotate_left
  · intro w'
    go_simp
    with_reducible rfl
  rotate_left
  · simp only [Act.put, List.setIfInBounds_toArray, List.set_cons_zero, List.set_cons_succ, i64_w, i32_w, f1, f2, f3, f4, f5, f6]
    rfl
  refine pure_ (i := 22) (N := some 50) (v := ?_) (a' := ?_) #[true, true, false, true, false, false, true, false, false, true, true, false, true, true, true, false, false, false, true, true, true, true, true, false, false, false, false, false, false, false, false, false, false] rfl rfl (by kernel_rfl) (fun _ _ _ h => h) (Or.inl ⟨by rfl, ?_⟩) ?_ ?_
  rotate_left
  · intro w'
    go_simp
    with_reducible rfl
  rotate_left
  · simp only [Act.put, List.setIfInBounds_toArray, List.set_cons_zero, List.set_cons_succ, i64_w, i32_w, f1, f2, f3, f4, f5, f6]
    rfl
  refine pure_ (i := 23) (N := some 51) (v := ?_) (a' := ?_) #[true, true, false, true, false, false, true, false, false, true, true, false, true, true, true, false, false, false, true, true, true, true, true, true, false, false, false, false, false, false, false, false, false] rfl rfl (by kernel_rfl) (fun _ _ _ h => h) (Or.inl ⟨by rfl, ?_⟩) ?_ ?_
  rotate_left
  · intro w'
    go_simp
    with_reducible rfl
  rotate_left
  · simp only [Act.put, List.setIfInBounds_toArray, List.set_cons_zero, List.set_cons_succ, i64_w, i32_w, f1, f2, f3, f4, f5, f6]
    rfl
  refine take_ (i := 2) (N := some 30) (v := ?_) (a' := ?_) #[true, true, true, true, false, false, true, false, false, true, true, false, true, true, true, false, false, false, true, true, true, true, true, true, false, false, false, false, false, false, false, false, false] rfl rfl (by kernel_rfl) (fun _ _ _ h => h) (Or.inl ⟨by rfl, ?_⟩) hHeld ?_ ?_
  rotate_left
  · rintro w' ⟨s0, s1, s2, s3, s4, s5, s6⟩
    go_simp
    with_reducible rfl
  rotate_left
  · simp only [Act.put, List.setIfInBounds_toArray, List.set_cons_zero, List.set_cons_succ, i64_w, i32_w, f1, f2, f3, f4, f5, f6]
    rfl
  refine take_ (i := 4) (N := some 32) (v := ?_) (a' := ?_) #[true, true, true, true, true, false, true, false, false, true, true, false, true, true, true, false, false, false, true, true, true, true, true, true, false, false, false, false, false, false, false, false, false] rfl rfl (by kernel_rfl) (fun _ _ _ h => h) (Or.inl ⟨by rfl, ?_⟩) hHeld ?_ ?_
  rotate_left
  · rintro w' ⟨s0, s1, s2, s3, s4, s5, s6⟩
    go_simp
    with_reducible rfl
  rotate_left
  · simp only [Act.put, List.setIfInBounds_toArray, List.set_cons_zero, List.set_cons_succ, i64_w, i32_w, f1, f2, f3, f4, f5, f6]
    rfl
  refine pure_ (i := 5) (N := some 33) (v := ?_) (a' := ?_) #[true, true, true, true, true, true, true, false, false, true, true, false, true, true, true, false, false, false, true, true, true, true, true, true, false, false, false, false, false, false, false, false, false] rfl rfl (by kernel_rfl) (fun _ _ _ h => h) (Or.inl ⟨by rfl, ?_⟩) ?_ ?_
  rotate_left
  · intro w'
    go_simp
    with_reducible rfl
  rotate_left
  · simp only [Act.put, List.setIfInBounds_toArray, List.set_cons_zero, List.set_cons_succ, i64_w, i32_w, f1, f2, f3, f4, f5, f6]
    rfl
  refine take_ (i := 7) (N := some 35) (v := ?_) (a' := ?_) #[true, true, true, true, true, true, true, true, false, true, true, false, true, true, true, false, false, false, true, true, true, true, true, true, false, false, false, false, false, false, false, false, false] rfl rfl (by kernel_rfl) (fun _ _ _ h => h) (Or.inl ⟨by rfl, ?_⟩) hHeld ?_ ?_
  rotate_left
  · rintro w' ⟨s0, s1, s2, s3, s4, s5, s6⟩
    go_simp
    with_reducible rfl
  rotate_left
  · simp only [Act.put, List.setIfInBounds_toArray, List.set_cons_zero, List.set_cons_succ, i64_w, i32_w, f1, f2, f3, f4, f5, f6]
    rfl
  refine pure_ (i := 8) (N := some 36) (v := ?_) (a' := ?_) #[true, true, true, true, true, true, true, true, true, true, true, false, true, true, true, false, false, false, true, true, true, true, true, true, false, false, false, false, false, false, false, false, false] rfl rfl (by kernel_rfl) (fun _ _ _ h => h) (Or.inl ⟨by rfl, ?_⟩) ?_ ?_
  rotate_left
  · intro w'
    go_simp
    with_reducible rfl
  rotate_left
  · simp only [Act.put, List.setIfInBounds_toArray, List.set_cons_zero, List.set_cons_succ, i64_w, i32_w, f1, f2, f3, f4, f5, f6]
    rfl
  refine take_ (i := 11) (N := some 39) (v := ?_) (a' := ?_) #[true, true, true, true, true, true, true, true, true, true, true, true, true, true, true, false, false, false, true, true, true, true, true, true, false, false, false, false, false, false, false, false, false] rfl rfl (by kernel_rfl) (fun _ _ _ h => h) (Or.inl ⟨by rfl, ?_⟩) hHeld ?_ ?_
  rotate_left
  · rintro w' ⟨s0, s1, s2, s3, s4, s5, s6⟩
    go_simp
    with_reducible rfl
  rotate_left
  · simp only [Act.put, List.setIfInBounds_toArray, List.set_cons_zero, List.set_cons_succ, i64_w, i32_w, f1, f2, f3, f4, f5, f6]
    rfl
  refine take_ (i := 15) (N := some 43) (v := ?_) (a' := ?_) #[true, true, true, true, true, true, true, true, true, true, true, true, true, true, true, true, false, false, true, true, true, true, true, true, false, false, false, false, false, false, false, false, false] rfl rfl (by kernel_rfl) (fun _ _ _ h => h) (Or.inl ⟨by rfl, ?_⟩) hHeld ?_ ?_
  rotate_left
  · rintro w' ⟨s0, s1, s2, s3, s4, s5, s6⟩
    go_simp
    with_reducible rfl
  rotate_left
  · simp only [Act.put, List.setIfInBounds_toArray, List.set_cons_zero, List.set_cons_succ, i64_w, i32_w, f1, f2, f3, f4, f5, f6]
    rfl
  refine pure_ (i := 16) (N := some 44) (v := ?_) (a' := ?_) #[true, true, true, true, true, true, true, true, true, true, true, true, true, true, true, true, true, false, true, true, true, true, true, true, false, false, false, false, false, false, false, false, false] rfl rfl (by kernel_rfl) (fun _ _ _ h => h) (Or.inl ⟨by rfl, ?_⟩) ?_ ?_
  rotate_left
  · intro w'
    go_simp
    with_reducible rfl
  rotate_left
  · simp only [Act.put, List.setIfInBounds_toArray, List.set_cons_zero, List.set_cons_succ, i64_w, i32_w, f1, f2, f3, f4, f5, f6]
    rfl
  refine pure_ (i := 17) (N := some 45) (v := ?_) (a' := ?_) #[true, true, true, true, true, true, true, true, true, true, true, true, true, true, true, true, true, true, true, true, true, true, true, true, false, false, false, false, false, false, false, false, false] rfl rfl (by kernel_rfl) (fun _ _ _ h => h) (Or.inl ⟨by rfl, ?_⟩) ?_ ?_
  rotate_left
  · intro w'
    go_simp
    with_reducible rfl
  rotate_left
  · simp only [Act.put, List.setIfInBounds_toArray, List.set_cons_zero, List.set_cons_succ, i64_w, i32_w, f1, f2, f3, f4, f5, f6]
    rfl
  refine pure_ (i := 24) (N := some 52) (v := ?_) (a' := ?_) #[true, true, true, true, true, true, true, true, true, true, true, true, true, true, true, true, true, true, true, true, true, true, true, true, true, false, false, false, false, false, false, false, false] rfl rfl (by kernel_rfl) (fun _ _ _ h => h) (Or.inl ⟨by rfl, ?_⟩) ?_ ?_
  rotate_left
  · intro w'
    go_simp
    with_reducible rfl
  rotate_left
  · simp only [Act.put, List.setIfInBounds_toArray, List.set_cons_zero, List.set_cons_succ, i64_w, i32_w, f1, f2, f3, f4, f5, f6]
    rfl
  refine last_ (i := 25) (N := some 53) #[true, true, true, true, true, true, true, true, true, true, true, true, true, true, true, true, true, true, true, true, true, true, true, true, true, true, false, false, false, false, false, false, false] rfl rfl (by kernel_rfl) (by decide) (fun K hK => ?_)
  obtain ⟨s0, s1, s2, s3, s4, s5, s6⟩ := hHeld
  refine goesV_ 106 Try.func106 (by kernel_rfl) rfl #[iv (ps * 65536 + fr), iv step, .bool bk, .agg #[iv ((n : Int) * 65536), iv (a * 65536), iv ((b - a) * 65536)]] (by rfl) rfl rfl (by rfl) (by simp only [List.map_toArray, List.map_cons, List.map_nil]; rfl) ?_
  with_reducible refine (WC.out _).mono ?_
  rintro e w4 ⟨rfl, hb4⟩
  refine ⟨_, rfl, ?_⟩
  have P4 := Lib.hid (And.intro (bkBelow s5 hb4) (bdT s6 s6.size hb4))
  clear s0 s1 s2 s3 s4 s5 s6
  refine hK.out _ _ ?_
  clear hK K
  refine norm_ (a' := ?_) ?_ ?_
  rotate_left
  · show Act.put _ (some 53) _ = _
    simp only [Act.put, List.setIfInBounds_toArray, List.set_cons_zero, List.set_cons_succ, i64_w, i32_w, f1, f2, f3, f4, f5, f6]
    rfl
  refine pure_ (i := 26) (N := some 27) (v := ?_) (a' := ?_) #[true, true, true, true, true, true, true, true, true, true, true, true, true, true, true, true, true, true, true, true, true, true, true, true, true, true, true, false, false, false, false, false, false] rfl rfl (by kernel_rfl) (fun _ _ _ h => h) (Or.inl ⟨by rfl, ?_⟩) ?_ ?_
  rotate_left
  · intro w'
    go_simp
    with_reducible rfl
  rotate_left
  · simp only [Act.put, List.setIfInBounds_toArray, List.set_cons_zero, List.set_cons_succ, i64_w, i32_w, f1, f2, f3, f4, f5, f6]
    rfl
  refine pure_ (i := 27) (N := some 54) (v := ?_) (a' := ?_) #[true, true, true, true, true, true, true, true, true, true, true, true, true, true, true, true, true, true, true, true, true, true, true, true, true, true, true, true, false, false, false, false, false] rfl rfl (by kernel_rfl) (fun _ _ _ h => h) (Or.inl ⟨by rfl, ?_⟩) ?_ ?_
  rotate_left
  · intro w'
    go_simp
    with_reducible rfl
  rotate_left
  · simp only [Act.put, List.setIfInBounds_toArray, List.set_cons_zero, List.set_cons_succ, i64_w, i32_w, f1, f2, f3, f4, f5, f6]
    rfl
  refine pure_ (i := 28) (N := some 55) (v := ?_) (a' := ?_) #[true, true, true, true, true, true, true, true, true, true, true, true, true, true, true, true, true, true, true, true, true, true, true, true, true, true, true, true, true, false, false, false, false] rfl rfl (by kernel_rfl) (fun _ _ _ h => h) (Or.inl ⟨by rfl, ?_⟩) ?_ ?_
  rotate_left
  · intro w'
    go_simp
    with_reducible rfl
  rotate_left
  · simp only [Act.put, List.setIfInBounds_toArray, List.set_cons_zero, List.set_cons_succ, i64_w, i32_w, f1, f2, f3, f4, f5, f6]
    rfl
  refine pure_ (i := 29) (N := some 56) (v := ?_) (a' := ?_) #[true, true, true, true, true, true, true, true, true, true, true, true, true, true, true, true, true, true, true, true, true, true, true, true, true, true, true, true, true, true, false, false, false] rfl rfl (by kernel_rfl) (fun _ _ _ h => h) (Or.inl ⟨by rfl, ?_⟩) ?_ ?_
  rotate_left
  · intro w'
    go_simp
    with_reducible rfl
  rotate_left
  · simp only [Act.put, List.setIfInBounds_toArray, List.set_cons_zero, List.set_cons_succ, i64_w, i32_w, f1, f2, f3, f4, f5, f6]
    rfl
  refine pure_ (i := 30) (N := some 13) (v := ?_) (a' := ?_) #[true, true, true, true, true, true, true, true, true, true, true, true, true, true, true, true, true, true, true, true, true, true, true, true, true, true, true, true, true, true, true, false, false] rfl rfl (by kernel_rfl) (fun _ _ _ h => h) (Or.inl ⟨by rfl, ?_⟩) ?_ ?_
  rotate_left
  · intro w'
    go_simp
    with_reducible rfl
  rotate_left
  · simp only [Act.put, List.setIfInBounds_toArray, List.set_cons_zero, List.set_cons_succ, i64_w, i32_w, f1, f2, f3, f4, f5, f6]
    rfl
  refine pure_ (i := 31) (N := some 14) (v := ?_) (a' := ?_) #[true, true, true, true, true, true, true, true, true, true, true, true, true, true, true, true, true, true, true, true, true, true, true, true, true, true, true, true, true, true, true, true, false] rfl rfl (by kernel_rfl) (fun _ _ _ h => h) (Or.inl ⟨by rfl, ?_⟩) ?_ ?_
  rotate_left
  · intro w'
    go_simp
    with_reducible rfl
  rotate_left
  · simp only [Act.put, List.setIfInBounds_toArray, List.set_cons_zero, List.set_cons_succ, i64_w, i32_w, f1, f2, f3, f4, f5, f6]
    rfl
  refine pure_ (i := 32) (N := some 15) (v := ?_) (a' := ?_) #[true, true, true, true, true, true, true, true, true, true, true, true, true, true, true, true, true, true, true, true, true, true, true, true, true, true, true, true, true, true, true, true, true] rfl rfl (by kernel_rfl) (fun _ _ _ h => h) (Or.inl ⟨by rfl, ?_⟩) ?_ ?_
  rotate_left
  · intro w'
    go_simp
    with_reducible rfl
  rotate_left
  · simp only [Act.put, List.setIfInBounds_toArray, List.set_cons_zero, List.set_cons_succ, i64_w, i32_w, f1, f2, f3, f4, f5, f6]
    rfl
  refine done_ (by kernel_rfl) ?_
  clear f1 f2 f3 f4 f5 f6 q0 q1 q2 q3 q4 q5 q6
  have hlt := bkLt P4.out.1
  cases on
  · go_wp2_with (refine wpList_store_row rfl 26 (.tmp 8) (.tmp 59) rfl (w.heap.size + 1) (Cur.cs Cur.over) rfl rfl 26 _ P4.out.1 (Cur.i26 _) (Cur.sz _ _) (Cur.one _) ?_)
    refine bodyPost_ret (results_cell_row rfl _ _ (w.heap.size + 1) 26 _ (0, 0) _ rfl (setRow_heap _ _ _ _ _ _ P4.out.1) Try.underlying26 rfl (Cur.i26 _)) rfl ⟨rfl, below_setRow P4.out.2 (by omega) _⟩
  · obtain ⟨hy0, hy1⟩ := HY.out rfl
    have y1 : 0 ≤ y / 65536 := by omega
    have y2 : y / 65536 ≤ 1000000000000 := by omega
    go_wp2_with (refine wpList_store_row rfl 26 (.tmp 8) (.tmp 65) rfl (w.heap.size + 1) (Cur.cs (stand (y, bk1, true))) rfl rfl 26 _ P4.out.1 (Cur.i26 _) (Cur.sz _ _) (Cur.one _) ?_)
    refine bodyPost_ret (results_cell_row rfl _ _ (w.heap.size + 1) 26 _ (0, 0) _ rfl (setRow_heap _ _ _ _ _ _ P4.out.1) Try.underlying26 rfl (Cur.i26 _)) rfl ⟨rfl, below_setRow P4.out.2 (by omega) _⟩
set_option maxHeartbeats 4000000 in
set_option maxRecDepth 100000 in
theorem move_2 (s : S) (A : Option Addr) (n c0 g : Nat) (ps fr : Int) (bk : Bool) (step : Int) (held : Bool) (a b : Int) (hr : rgS s held = (2, a, b)) (y : Int) (bk1 on : Bool) (hn : n ≤ 4096) (hs : 0 ≤ step) (hs1 : step ≤ 268435456) (hp : 0 ≤ ps ∧ ps < n ∧ 0 ≤ fr ∧ fr < 65536) (hab : 0 ≤ a ∧ a ≤ b ∧ b ≤ 4096) (hlt : (2 : Int) ≠ 0 → a < b)
    (hy : wayM 2 (ps * 65536 + fr) step bk ((n : Int) * 65536) (a * 65536) ((b - a) * 65536) = (y, bk1, on)) (hy0 : on = true → 0 ≤ y ∧ y ≤ 1000000000000) (w : World) (hP : w.heap[g]? = some (.cells (s.cs A n c0) 24 (0, 0))) :
    Calls Try.prog 62 #[.pointer (some ⟨g, 0, none⟩), .agg (Cur.cs ⟨ps, fr, bk, false⟩), iv step, .bool held] w fun e w' => e = .returned (.agg (Cur.cs (stand (y, bk1, on)))) ∧ Below w.heap.size w w' := by
  have f1 : wrap64 (ps * 65536) = ps * 65536 := wrap_in (by omega) (by omega)
  have f2 : wrap64 (ps * 65536 + fr) = ps * 65536 + fr := wrap_in (by omega) (by omega)
  have f3 : wrap64 ((n : Int) * 65536) = (n : Int) * 65536 := wrap_in (by omega) (by omega)
  have f4 : wrap64 (a * 65536) = a * 65536 := wrap_in (by omega) (by omega)
  have f5 : wrap64 (b - a) = b - a := wrap_in (by omega) (by omega)
  have f6 : wrap64 ((b - a) * 65536) = (b - a) * 65536 := wrap_in (by omega) (by omega)
  have hF := Lib.hid (And.intro f1 (And.intro f2 (And.intro f3 (And.intro f4 (And.intro f5 f6)))))
  clear f1 f2 f3 f4 f5 f6
  have hg := bkLt hP
  have WC := Lib.hid (show ∀ W, Calls Try.prog 107 #[iv (ps * 65536 + fr), iv step, .bool bk, .agg #[iv ((n : Int) * 65536), iv (a * 65536), iv ((b - a) * 65536)]] W fun e w' => e = .returned (.tuple #[iv y, .bool bk1, .bool on]) ∧ Below W.heap.size W w' from fun W => way_any 2 (by decide) (x := ps * 65536 + fr) (by omega) (by omega) hs (by omega) (show 0 ≤ a * 65536 by omega) (by omega) (show 0 ≤ (b - a) * 65536 by omega) (by omega) (fun h => by have := hlt h; omega) hy W)
  have KA := Lib.hid (show ∀ W : World, W.heap[g]? = some (.cells (s.cs A n c0) 24 (0, 0)) → Calls Try.prog 65 #[.pointer (some ⟨g, 0, none⟩), .bool held] W fun e w' => e = .returned (.tuple #[iv 2, iv a, iv b]) ∧ ∃ m, w' = W.drewN m from fun W hW => by
    have := applies_any s A n c0 g held W hW
    rw [hr] at this
    exact this)
  have HP := Lib.hid hP
  have HY := Lib.hid hy0
  have P0 := Lib.hid (show ((w.alloc (Obj.cells #[iv ps, iv fr, .bool bk, .bool false] 26)).alloc (Obj.cells #[iv 0, iv 0, .bool false, .bool false] 26)).heap[g]? = some (.cells (s.cs A n c0) 24 (0, 0)) from bkAlloc (bkAlloc hP (Obj.cells (Cur.cs ⟨ps, fr, bk, false⟩) 26)) (Obj.cells (Cur.cs Cur.zero) 26))
  clear hP hr hy hlt hab hp hs hs1 hy0
  unfold Cur.cs
  go_enter Try.func62, Try.ntmps62
  go_upto_region 5 with (go_at_call 65; (with_reducible refine (KA.out _ P0.out).mono ?_); rintro e w1 ⟨rfl, m, rfl⟩)
  have E1 : ((((w.alloc (Obj.cells #[iv ps, iv fr, .bool bk, .bool false] 26)).alloc (Obj.cells #[iv 0, iv 0, .bool false, .bool false] 26)).drewN m).alloc (Obj.cells #[.func (.func 105) #[] #[], .func (.func 106) #[] #[], .func (.func 107) #[] #[]] 100)).heap[w.heap.size]? = some (.cells #[iv ps, iv fr, .bool bk, .bool false] 26 (0, 0)) := bkAlloc (show (((w.alloc (Obj.cells #[iv ps, iv fr, .bool bk, .bool false] 26)).alloc (Obj.cells #[iv 0, iv 0, .bool false, .bool false] 26)).drewN m).heap[w.heap.size]? = _ from heap_alloc2_old w _ _) _
  have E2 : ((((w.alloc (Obj.cells #[iv ps, iv fr, .bool bk, .bool false] 26)).alloc (Obj.cells #[iv 0, iv 0, .bool false, .bool false] 26)).drewN m).alloc (Obj.cells #[.func (.func 105) #[] #[], .func (.func 106) #[] #[], .func (.func 107) #[] #[]] 100)).heap[w.heap.size + 1]? = some (.cells (Cur.cs Cur.zero) 26 (0, 0)) := bkAlloc (show (((w.alloc (Obj.cells #[iv ps, iv fr, .bool bk, .bool false] 26)).alloc (Obj.cells #[iv 0, iv 0, .bool false, .bool false] 26)).drewN m).heap[w.heap.size + 1]? = _ from heap_alloc2_new w _ _) _
  have E3 : ((((w.alloc (Obj.cells #[iv ps, iv fr, .bool bk, .bool false] 26)).alloc (Obj.cells #[iv 0, iv 0, .bool false, .bool false] 26)).drewN m).alloc (Obj.cells #[.func (.func 105) #[] #[], .func (.func 106) #[] #[], .func (.func 107) #[] #[]] 100)).heap[w.heap.size + 1 + 1]? = some (.cells #[.func (.func 105) #[] #[], .func (.func 106) #[] #[], .func (.func 107) #[] #[]] 100 (0, 0)) := by
    have := heap_alloc_new (((w.alloc (Obj.cells #[iv ps, iv fr, .bool bk, .bool false] 26)).alloc (Obj.cells #[iv 0, iv 0, .bool false, .bool false] 26)).drewN m) (Obj.cells #[.func (.func 105) #[] #[], .func (.func 106) #[] #[], .func (.func 107) #[] #[]] 100)
    simpa using this
  have E4 : ((((w.alloc (Obj.cells #[iv ps, iv fr, .bool bk, .bool false] 26)).alloc (Obj.cells #[iv 0, iv 0, .bool false, .bool false] 26)).drewN m).alloc (Obj.cells #[.func (.func 105) #[] #[], .func (.func 106) #[] #[], .func (.func 107) #[] #[]] 100)).heap[g]? = some (.cells (s.cs A n c0) 24 (0, 0)) := bkAlloc (show (((w.alloc (Obj.cells #[iv ps, iv fr, .bool bk, .bool false] 26)).alloc (Obj.cells #[iv 0, iv 0, .bool false, .bool false] 26)).drewN m).heap[g]? = _ from P0.out) _
  have q0 := Lib.hid (show ((((w.alloc (Obj.cells #[iv ps, iv fr, .bool bk, .bool false] 26)).alloc (Obj.cells #[iv 0, iv 0, .bool false, .bool false] 26)).drewN m).alloc (Obj.cells #[.func (.func 105) #[] #[], .func (.func 106) #[] #[], .func (.func 107) #[] #[]] 100)).cell? ⟨w.heap.size, 0, none⟩ = some (iv ps) from (bkCell E1 0).trans rfl)
  have q1 := Lib.hid (show ((((w.alloc (Obj.cells #[iv ps, iv fr, .bool bk, .bool false] 26)).alloc (Obj.cells #[iv 0, iv 0, .bool false, .bool false] 26)).drewN m).alloc (Obj.cells #[.func (.func 105) #[] #[], .func (.func 106) #[] #[], .func (.func 107) #[] #[]] 100)).cell? ⟨w.heap.size, 1, none⟩ = some (iv fr) from (bkCell E1 1).trans rfl)
  have q2 := Lib.hid (show ((((w.alloc (Obj.cells #[iv ps, iv fr, .bool bk, .bool false] 26)).alloc (Obj.cells #[iv 0, iv 0, .bool false, .bool false] 26)).drewN m).alloc (Obj.cells #[.func (.func 105) #[] #[], .func (.func 106) #[] #[], .func (.func 107) #[] #[]] 100)).cell? ⟨w.heap.size, 2, none⟩ = some (.bool bk) from (bkCell E1 2).trans rfl)
  have q3 := Lib.hid (show ((((w.alloc (Obj.cells #[iv ps, iv fr, .bool bk, .bool false] 26)).alloc (Obj.cells #[iv 0, iv 0, .bool false, .bool false] 26)).drewN m).alloc (Obj.cells #[.func (.func 105) #[] #[], .func (.func 106) #[] #[], .func (.func 107) #[] #[]] 100)).cell? ⟨g, 1, none⟩ = some (.slice A n c0) from (bkCell E4 1).trans rfl)
  have q4 := Lib.hid (show ((((w.alloc (Obj.cells #[iv ps, iv fr, .bool bk, .bool false] 26)).alloc (Obj.cells #[iv 0, iv 0, .bool false, .bool false] 26)).drewN m).alloc (Obj.cells #[.func (.func 105) #[] #[], .func (.func 106) #[] #[], .func (.func 107) #[] #[]] 100)).cell? ⟨w.heap.size + 1 + 1, 2, none⟩ = some (.func (.func 107) #[] #[]) from (bkCell E3 2).trans rfl)
  have q5 := Lib.hid E2
  have q6 := Lib.hid (show Below w.heap.size w ((((w.alloc (Obj.cells #[iv ps, iv fr, .bool bk, .bool false] 26)).alloc (Obj.cells #[iv 0, iv 0, .bool false, .bool false] 26)).drewN m).alloc (Obj.cells #[.func (.func 105) #[] #[], .func (.func 106) #[] #[], .func (.func 107) #[] #[]] 100)) from (bdN (((Below.refl _ _).alloc (Nat.le_refl _) _).alloc (by simp) _) m).alloc (by simp; omega) _)
  clear E1 E2 E3 E4
  obtain ⟨f1, f2, f3, f4, f5, f6⟩ := hF.out
  clear hF KA HP P0
  refine start_ (n := 33) (S := fun w' => w'.cell? ⟨w.heap.size, 0, none⟩ = some (iv ps) ∧ w'.cell? ⟨w.heap.size, 1, none⟩ = some (iv fr) ∧ w'.cell? ⟨w.heap.size, 2, none⟩ = some (.bool bk) ∧ w'.cell? ⟨g, 1, none⟩ = some (.slice A n c0) ∧ w'.cell? ⟨w.heap.size + 1 + 1, 2, none⟩ = some (.func (.func 107) #[] #[]) ∧ w'.heap[w.heap.size + 1]? = some (.cells (Cur.cs Cur.zero) 26 (0, 0)) ∧ Below w.heap.size w w') (ds := [25]) #[false, false, false, false, false, false, false, false, false, false, false, false, false, false, false, false, false, false, false, false, false, false, false, false, false, false, false, false, false, false, false, false, false] (by kernel_rfl) rfl rfl ⟨q0.out, q1.out, q2.out, q3.out, q4.out, q5.out, q6.out.drew⟩ (fun hHeld => ?_)
  refine pure_ (i := 0) (N := some 28) (v := ?_) (a' := ?_) #[true, false, false, false, false, false, false, false, false, false, false, false, false, false, false, false, false, false, false, false, false, false, false, false, false, false, false, false, false, false, false, false, false] rfl rfl (by kernel_rfl) (fun _ _ _ h => h) (Or.inl ⟨by rfl, ?_⟩) ?_ ?_
  rotate_left
  · intro w'
    go_simp
    with_reducible rfl
  rotate_left
  · simp only [Act.put, List.setIfInBounds_toArray, List.set_cons_zero, List.set_cons_succ, i64_w, i32_w, f1, f2, f3, f4, f5, f6]
    rfl
  refine pure_ (i := 1) (N := some 29) (v := ?_) (a' := ?_) #[true, true, false, false, false, false, false, false, false, false, false, false, false, false, false, false, false, false, false, false, false, false, false, false, false, false, false, false, false, false, false, false, false] rfl rfl (by kernel_rfl) (fun _ _ _ h => h) (Or.inl ⟨by rfl, ?_⟩) ?_ ?_
  rotate_left
  · intro w'
    go_simp
    with_reducible rfl
  rotate_left
  · simp only [Act.put, List.setIfInBounds_toArray, List.set_cons_zero, List.set_cons_succ, i64_w, i32_w, f1, f2, f3, f4, f5, f6]
    rfl
  refine pure_ (i := 3) (N := some 31) (v := ?_) (a' := ?_) #[true, true, false, true, false, false, false, false, false, false, false, false, false, false, false, false, false, false, false, false, false, false, false, false, false, false, false, false, false, false, false, false, false] rfl rfl (by kernel_rfl) (fun _ _ _ h => h) (Or.inl ⟨by rfl, ?_⟩) ?_ ?_
  rotate_left
  · intro w'
    go_simp
    with_reducible rfl
  rotate_left
  · simp only [Act.put, List.setIfInBounds_toArray, List.set_cons_zero, List.set_cons_succ, i64_w, i32_w, f1, f2, f3, f4, f5, f6]
    rfl
  refine pure_ (i := 6) (N := some 34) (v := ?_) (a' := ?_) #[true, true, false, true, false, false, true, false, false, false, false, false, false, false, false, false, false, false, false, false, false, false, false, false, false, false, false, false, false, false, false, false, false] rfl rfl (by kernel_rfl) (fun _ _ _ h => h) (Or.inl ⟨by rfl, ?_⟩) ?_ ?_
  rotate_left
  · intro w'
    go_simp
    with_reducible rfl
  rotate_left
  · simp only [Act.put, List.setIfInBounds_toArray, List.set_cons_zero, List.set_cons_succ, i64_w, i32_w, f1, f2, f3, f4, f5, f6]
    rfl
  refine pure_ (i := 9) (N := some 37) (v := ?_) (a' := ?_) #[true, true, false, true, false, false, true, false, false, true, false, false, false, false, false, false, false, false, false, false, false, false, false, false, false, false, false, false, false, false, false, false, false] rfl rfl (by kernel_rfl) (fun _ _ _ h => h) (Or.inl ⟨by rfl, ?_⟩) ?_ ?_
  rotate_left
  · intro w'
    go_simp
    with_reducible rfl
  rotate_left
  · simp only [Act.put, List.setIfInBounds_toArray, List.set_cons_zero, List.set_cons_succ, i64_w, i32_w, f1, f2, f3, f4, f5, f6]
    rfl
  refine pure_ (i := 10) (N := some 38) (v := ?_) (a' := ?_) #[true, true, false, true, false, false, true, false, false, true, true, false, false, false, false, false, false, false, false, false, false, false, false, false, false, false, false, false, false, false, false, false, false] rfl rfl (by kernel_rfl) (fun _ _ _ h => h) (Or.inl ⟨by rfl, ?_⟩) ?_ ?_
  rotate_left
  · intro w'
    go_simp
    with_reducible rfl
  rotate_left
  · simp only [Act.put, List.setIfInBounds_toArray, List.set_cons_zero, List.set_cons_succ, i64_w, i32_w, f1, f2, f3, f4, f5, f6]
    rfl
  refine pure_ (i := 12) (N := some 40) (v := ?_) (a' := ?_) #[true, true, false, true, false, false, true, false, false, true, true, false, true, false, false, false, false, false, false, false, false, false, false, false, false, false, false, false, false, false, false, false, false] rfl rfl (by kernel_rfl) (fun _ _ _ h => h) (Or.inl ⟨by rfl, ?_⟩) ?_ ?_
  rotate_left
  · intro w'
    go_simp
    with_reducible rfl
  rotate_left
  · simp only [Act.put, List.setIfInBounds_toArray, List.set_cons_zero, List.set_cons_succ, i64_w, i32_w, f1, f2, f3, f4, f5, f6]
    rfl
  refine pure_ (i := 13) (N := some 41) (v := ?_) (a' := ?_) #[true, true, false, true, false, false, true, false, false, true, true, false, true, true, false, false, false, false, false, false, false, false, false, false, false, false, false, false, false, false, false, false, false] rfl rfl (by kernel_rfl) (fun _ _ _ h => h) (Or.inl ⟨by rfl, ?_⟩) ?_ ?_
  rotate_left
  · intro w'
    go_simp
    with_reducible rfl
  rotate_left
  · simp only [Act.put, List.setIfInBounds_toArray, List.set_cons_zero, List.set_cons_succ, i64_w, i32_w, f1, f2, f3, f4, f5, f6]
    rfl
  refine pure_ (i := 14) (N := some 42) (v := ?_) (a' := ?_) #[true, true, false, true, false, false, true, false, false, true, true, false, true, true, true, false, false, false, false, false, false, false, false, false, false, false, false, false, false, false, false, false, false] rfl rfl (by kernel_rfl) (fun _ _ _ h => h) (Or.inl ⟨by rfl, ?_⟩) ?_ ?_
  rotate_left
  · intro w'
    go_simp
    with_reducible rfl
  rotate_left
  · simp only [Act.put, List.setIfInBounds_toArray, List.set_cons_zero, List.set_cons_succ, i64_w, i32_w, f1, f2, f3, f4, f5, f6]
    rfl
  refine pure_ (i := 18) (N := some 46) (v := ?_) (a' := ?_) #[true, true, false, true, false, false, true, false, false, true, true, false, true, true, true, false, false, false, true, false, false, false, false, false, false, false, false, false, false, false, false, false, false] rfl rfl (by kernel_rfl) (fun _ _ _ h => h) (Or.inl ⟨by rfl, ?_⟩) ?_ ?_
  rotate_left
  · intro w'
    go_simp
    with_reducible rfl
  rotate_left
  · simp only [Act.put, List.setIfInBounds_toArray, List.set_cons_zero, List.set_cons_succ, i64_w, i32_w, f1, f2, f3, f4, f5, f6]
    rfl
  refine pure_ (i := 19) (N := some 47) (v := ?_) (a' := ?_) #[true, true, false, true, false, false, true, false, false, true, true, false, true, true, true, false, false, false, true, true, false, false, false, false, false, false, false, false, false, false, false, false, false] rfl rfl (by kernel_rfl) (fun _ _ _ h => h) (Or.inl ⟨by rfl, ?_⟩) ?_ ?_
  rotate_left
  · intro w'
    go_simp
    with_reducible rfl
  rotate_left
  · simp only [Act.put, List.setIfInBounds_toArray, List.set_cons_zero, List.set_cons_succ, i64_w, i32_w, f1, f2, f3, f4, f5, f6]
    rfl
  refine pure_ (i := 20) (N := some 48) (v := ?_) (a' := ?_) #[true, true, false, true, false, false, true, false, false, true, true, false, true, true, true, false, false, false, true, true, true, false, false, false, false, false, false, false, false, false, false, false, false] rfl rfl (by kernel_rfl) (fun _ _ _ h => h) (Or.inl ⟨by rfl, ?_⟩) ?_ ?_
  rotate_left
  · intro w'
    go_simp
    with_reducible rfl
  rotate_left
  · simp only [Act.put, List.setIfInBounds_toArray, List.set_cons_zero, List.set_cons_succ, i64_w, i32_w, f1, f2, f3, f4, f5, f6]
    rfl
  refine pure_ (i := 21) (N := some 49) (v := ?_) (a' := ?_) #[true, true, false, true, false, false, true, false, false, true, true, false, true, true, true, false, false, false, true, true, true, true, false, false, false, false, false, false, false, false, false, false, false] rfl rfl (by kernel_rfl) (fun _ _ _ h => h) (Or.inl ⟨by rfl, ?_⟩) ?_ ?_
  rotate_left
  · intro w'
    go_simp
    with_reducible rfl
  rotate_left
  · simp only [Act.put, List.setIfInBounds_toArray, List.set_cons_zero, List.set_cons_succ, i64_w, i32_w, f1, f2, f3, f4, f5, f6]
    rfl
  refine pure_ (i := 22) (N := some 50) (v := ?_) (a' := ?_) #[true, true, false, true, false, false, true, false, false, true, true, false, true, true, true, false, false, false, true, true, true, true, true, false, false, false, false, false, false, false, false, false, false] rfl rfl (by kernel_rfl) (fun _ _ _ h => h) (Or.inl ⟨by rfl, ?_⟩) ?_ ?_
  rotate_left
  · intro w'
    go_simp
    with_reducible rfl
  rotate_left
  · simp only [Act.put, List.setIfInBounds_toArray, List.set_cons_zero, List.set_cons_succ, i64_w, i32_w, f1, f2, f3, f4, f5, f6]
    rfl
  refine pure_ (i := 23) (N := some 51) (v := ?_) (a' := ?_) #[true, true, false, true, false, false, true, false, false, true, true, false, true, true, true, false, false, false, true, true, true, true, true, true, false, false, false, false, false, false, false, false, false] rfl rfl (by kernel_rfl) (fun _ _ _ h => h) (Or.inl ⟨by rfl, ?_⟩) ?_ ?_
  rotate_left
  · intro w'
    go_simp
    with_reducible rfl
  rotate_left
  · simp only [Act.put, List.setIfInBounds_toArray, List.set_cons_zero, List.set_cons_succ, i64_w, i32_w, f1, f2, f3, f4, f5, f6]
    rfl
  refine take_ (i := 2) (N := some 30) (v := ?_) (a' := ?_) #[true, true, true, true, false, false, true, false, false, true, true, false, true, true, true, false, false, false, true, true, true, true, true, true, false, false, false, false, false, false, false, false, false] rfl rfl (by kernel_rfl) (fun _ _ _ h => h) (Or.inl ⟨by rfl, ?_⟩) hHeld ?_ ?_
  rotate_left
  · rintro w' ⟨s0, s1, s2, s3, s4, s5, s6⟩
    go_simp
    with_reducible rfl
  rotate_left
  · simp only [Act.put, List.setIfInBounds_toArray, List.set_cons_zero, List.set_cons_succ, i64_w, i32_w, f1, f2, f3, f4, f5, f6]
    rfl
  refine take_ (i := 4) (N := some 32) (v := ?_) (a' := ?_) #[true, true, true, true, true, false, true, false, false, true, true, false, true, true, true, false, false, false, true, true, true, true, true, true, false, false, false, false, false, false, false, false, false] rfl rfl (by kernel_rfl) (fun _ _ _ h => h) (Or.inl ⟨by rfl, ?_⟩) hHeld ?_ ?_
  rotate_left
  · rintro w' ⟨s0, s1, s2, s3, s4, s5, s6⟩
    go_simp
    with_reducible rfl
  rotate_left
  · simp only [Act.put, List.setIfInBounds_toArray, List.set_cons_zero, List.set_cons_succ, i64_w, i32_w, f1, f2, f3, f4, f5, f6]
    rfl
  refine pure_ (i := 5) (N := some 33) (v := ?_) (a' := ?_) #[true, true, true, true, true, true, true, false, false, true, true, false, true, true, true, false, false, false, true, true, true, true, true, true, false, false, false, false, false, false, false, false, false] rfl rfl (by kernel_rfl) (fun _ _ _ h => h) (Or.inl ⟨by rfl, ?_⟩) ?_ ?_
  rotate_left
  · intro w'
    go_simp
    with_reducible rfl
  rotate_left
  · simp only [Act.put, List.setIfInBounds_toArray, List.set_cons_zero, List.set_cons_succ, i64_w, i32_w, f1, f2, f3, f4, f5, f6]
    rfl
  refine take_ (i := 7) (N := some 35) (v := ?_) (a' := ?_) #[true, true, true, true, true, true, true, true, false, true, true, false, true, true, true, false, false, false, true, true, true, true, true, true, false, false, false, false, false, false, false, false, false] rfl rfl (by kernel_rfl) (fun _ _ _ h => h) (Or.inl ⟨by rfl, ?_⟩) hHeld ?_ ?_
  rotate_left
  · rintro w' ⟨s0, s1, s2, s3, s4, s5, s6⟩
    go_simp
    with_reducible rfl
  rotate_left
  · simp only [Act.put, List.setIfInBounds_toArray, List.set_cons_zero, List.set_cons_succ, i64_w, i32_w, f1, f2, f3, f4, f5, f6]
    rfl
  refine pure_ (i := 8) (N := some 36) (v := ?_) (a' := ?_) #[true, true, true, true, true, true, true, true, true, true, true, false, true, true, true, false, false, false, true, true, true, true, true, true, false, false, false, false, false, false, false, false, false] rfl rfl (by kernel_rfl) (fun _ _ _ h => h) (Or.inl ⟨by rfl, ?_⟩) ?_ ?_
  rotate_left
  · intro w'
    go_simp
    with_reducible rfl
  rotate_left
  · simp only [Act.put, List.setIfInBounds_toArray, List.set_cons_zero, List.set_cons_succ, i64_w, i32_w, f1, f2, f3, f4, f5, f6]
    rfl
  refine take_ (i := 11) (N := some 39) (v := ?_) (a' := ?_) #[true, true, true, true, true, true, true, true, true, true, true, true, true, true, true, false, false, false, true, true, true, true, true, true, false, false, false, false, false, false, false, false, false] rfl rfl (by kernel_rfl) (fun _ _ _ h => h) (Or.inl ⟨by rfl, ?_⟩) hHeld ?_ ?_
  rotate_left
  · rintro w' ⟨s0, s1, s2, s3, s4, s5, s6⟩
    go_simp
    with_reducible rfl
  rotate_left
  · simp only [Act.put, List.setIfInBounds_toArray, List.set_cons_zero, List.set_cons_succ, i64_w, i32_w, f1, f2, f3, f4, f5, f6]
    rfl
  refine take_ (i := 15) (N := some 43) (v := ?_) (a' := ?_) #[true, true, true, true, true, true, true, true, true, true, true, true, true, true, true, true, false, false, true, true, true, true, true, true, false, false, false, false, false, false, false, false, false] rfl rfl (by kernel_rfl) (fun _ _ _ h => h) (Or.inl ⟨by rfl, ?_⟩) hHeld ?_ ?_
  rotate_left
  · rintro w' ⟨s0, s1, s2, s3, s4, s5, s6⟩
    go_simp
    with_reducible rfl
  rotate_left
  · simp only [Act.put, List.setIfInBounds_toArray, List.set_cons_zero, List.set_cons_succ, i64_w, i32_w, f1, f2, f3, f4, f5, f6]
    rfl
  refine pure_ (i := 16) (N := some 44) (v := ?_) (a' := ?_) #[true, true, true, true, true, true, true, true, true, true, true, true, true, true, true, true, true, false, true, true, true, true, true, true, false, false, false, false, false, false, false, false, false] rfl rfl (by kernel_rfl) (fun _ _ _ h => h) (Or.inl ⟨by rfl, ?_⟩) ?_ ?_
  rotate_left
  · intro w'
    go_simp
    with_reducible rfl
  rotate_left
  · simp only [Act.put, List.setIfInBounds_toArray, List.set_cons_zero, List.set_cons_succ, i64_w, i32_w, f1, f2, f3, f4, f5, f6]
    rfl
  refine pure_ (i := 17) (N := some 45) (v := ?_) (a' := ?_) #[true, true, true, true, true, true, true, true, true, true, true, true, true, true, true, true, true, true, true, true, true, true, true, true, false, false, false, false, false, false, false, false, false] rfl rfl (by kernel_rfl) (fun _ _ _ h => h) (Or.inl ⟨by rfl, ?_⟩) ?_ ?_
  rotate_left
  · intro w'
    go_simp
    with_reducible rfl
  rotate_left
  · simp only [Act.put, List.setIfInBounds_toArray, List.set_cons_zero, List.set_cons_succ, i64_w, i32_w, f1, f2, f3, f4, f5, f6]
    rfl
  refine pure_ (i := 24) (N := some 52) (v := ?_) (a' := ?_) #[true, true, true, true, true, true, true, true, true, true, true, true, true, true, true, true, true, true, true, true, true, true, true, true, true, false, false, false, false, false, false, false, false] rfl rfl (by kernel_rfl) (fun _ _ _ h => h) (Or.inl ⟨by rfl, ?_⟩) ?_ ?_
  rotate_left
  · intro w'
    go_simp
    with_reducible rfl
  rotate_left
  · simp only [Act.put, List.setIfInBounds_toArray, List.set_cons_zero, List.set_cons_succ, i64_w, i32_w, f1, f2, f3, f4, f5, f6]
    rfl
  refine last_ (i := 25) (N := some 53) #[true, true, true, true, true, true, true, true, true, true, true, true, true, true, true, true, true, true, true, true, true, true, true, true, true, true, false, false, false, false, false, false, false] rfl rfl (by kernel_rfl) (by decide) (fun K hK => ?_)
  obtain ⟨s0, s1, s2, s3, s4, s5, s6⟩ := hHeld
  refine goesV_ 107 Try.func107 (by kernel_rfl) rfl #[iv (ps * 65536 + fr), iv step, .bool bk, .agg #[iv ((n : Int) * 65536), iv (a * 65536), iv ((b - a) * 65536)]] (by rfl) rfl rfl (by rfl) (by simp only [List.map_toArray, List.map_cons, List.map_nil]; rfl) ?_
  with_reducible refine (WC.out _).mono ?_
  rintro e w4 ⟨rfl, hb4⟩
  refine ⟨_, rfl, ?_⟩
  have P4 := Lib.hid (And.intro (bkBelow s5 hb4) (bdT s6 s6.size hb4))
  clear s0 s1 s2 s3 s4 s5 s6
  refine hK.out _ _ ?_
  clear hK K
  refine norm_ (a' := ?_) ?_ ?_
  rotate_left
  · show Act.put _ (some 53) _ = _
    simp only [Act.put, List.setIfInBounds_toArray, List.set_cons_zero, List.set_cons_succ, i64_w, i32_w, f1, f2, f3, f4, f5, f6]
    rfl
  refine pure_ (i := 26) (N := some 27) (v := ?_) (a' := ?_) #[true, true, true, true, true, true, true, true, true, true, true, true, true, true, true, true, true, true, true, true, true, true, true, true, true, true, true, false, false, false, false, false, false] rfl rfl (by kernel_rfl) (fun _ _ _ h => h) (Or.inl ⟨by rfl, ?_⟩) ?_ ?_
  rotate_left
  · intro w'
    go_simp
    with_reducible rfl
  rotate_left
  · simp only [Act.put, List.setIfInBounds_toArray, List.set_cons_zero, List.set_cons_succ, i64_w, i32_w, f1, f2, f3, f4, f5, f6]
    rfl
  refine pure_ (i := 27) (N := some 54) (v := ?_) (a' := ?_) #[true, true, true, true, true, true, true, true, true, true, true, true, true, true, true, true, true, true, true, true, true, true, true, true, true, true, true, true, false, false, false, false, false] rfl rfl (by kernel_rfl) (fun _ _ _ h => h) (Or.inl ⟨by rfl, ?_⟩) ?_ ?_
  rotate_left
  · intro w'
    go_simp
    with_reducible rfl
  rotate_left
  · simp only [Act.put, List.setIfInBounds_toArray, List.set_cons_zero, List.set_cons_succ, i64_w, i32_w, f1, f2, f3, f4, f5, f6]
    rfl
  refine pure_ (i := 28) (N := some 55) (v := ?_) (a' := ?_) #[true, true, true, true, true, true, true, true, true, true, true, true, true, true, true, true, true, true, true, true, true, true, true, true, true, true, true, true, true, false, false, false, false] rfl rfl (by kernel_rfl) (fun _ _ _ h => h) (Or.inl ⟨by rfl, ?_⟩) ?_ ?_
  rotate_left
  · intro w'
    go_simp
    with_reducible rfl
  rotate_left
  · simp only [Act.put, List.setIfInBounds_toArray, List.set_cons_zero, List.set_cons_succ, i64_w, i32_w, f1, f2, f3, f4, f5, f6]
    rfl
  refine pure_ (i := 29) (N := some 56) (v := ?_) (a' := ?_) #[true, true, true, true, true, true, true, true, true, true, true, true, true, true, true, true, true, true, true, true, true, true, true, true, true, true, true, true, true, true, false, false, false] rfl rfl (by kernel_rfl) (fun _ _ _ h => h) (Or.inl ⟨by rfl, ?_⟩) ?_ ?_
  rotate_left
  · intro w'
    go_simp
    with_reducible rfl
  rotate_left
  · simp only [Act.put, List.setIfInBounds_toArray, List.set_cons_zero, List.set_cons_succ, i64_w, i32_w, f1, f2, f3, f4, f5, f6]
    rfl
  refine pure_ (i := 30) (N := some 13) (v := ?_) (a' := ?_) #[true, true, true, true, true, true, true, true, true, true, true, true, true, true, true, true, true, true, true, true, true, true, true, true, true, true, true, true, true, true, true, false, false] rfl rfl (by kernel_rfl) (fun _ _ _ h => h) (Or.inl ⟨by rfl, ?_⟩) ?_ ?_
  rotate_left
  · intro w'
    go_simp
    with_reducible rfl
  rotate_left
  · simp only [Act.put, List.setIfInBounds_toArray, List.set_cons_zero, List.set_cons_succ, i64_w, i32_w, f1, f2, f3, f4, f5, f6]
    rfl
  refine pure_ (i := 31) (N := some 14) (v := ?_) (a' := ?_) #[true, true, true, true, true, true, true, true, true, true, true, true, true, true, true, true, true, true, true, true, true, true, true, true, true, true, true, true, true, true, true, true, false] rfl rfl (by kernel_rfl) (fun _ _ _ h => h) (Or.inl ⟨by rfl, ?_⟩) ?_ ?_
  rotate_left
  · intro w'
    go_simp
    with_reducible rfl
  rotate_left
  · simp only [Act.put, List.setIfInBounds_toArray, List.set_cons_zero, List.set_cons_succ, i64_w, i32_w, f1, f2, f3, f4, f5, f6]
    rfl
  refine pure_ (i := 32) (N := some 15) (v := ?_) (a' := ?_) #[true, true, true, true, true, true, true, true, true, true, true, true, true, true, true, true, true, true, true, true, true, true, true, true, true, true, true, true, true, true, true, true, true] rfl rfl (by kernel_rfl) (fun _ _ _ h => h) (Or.inl ⟨by rfl, ?_⟩) ?_ ?_
  rotate_left
  · intro w'
    go_simp
    with_reducible rfl
  rotate_left
  · simp only [Act.put, List.setIfInBounds_toArray, List.set_cons_zero, List.set_cons_succ, i64_w, i32_w, f1, f2, f3, f4, f5, f6]
    rfl
  refine done_ (by kernel_rfl) ?_
  clear f1 f2 f3 f4 f5 f6 q0 q1 q2 q3 q4 q5 q6
  have hlt := bkLt P4.out.1
  cases on
  · go_wp2_with (refine wpList_store_row rfl 26 (.tmp 8) (.tmp 59) rfl (w.heap.size + 1) (Cur.cs Cur.over) rfl rfl 26 _ P4.out.1 (Cur.i26 _) (Cur.sz _ _) (Cur.one _) ?_)
    refine bodyPost_ret (results_cell_row rfl _ _ (w.heap.size + 1) 26 _ (0, 0) _ rfl (setRow_heap _ _ _ _ _ _ P4.out.1) Try.underlying26 rfl (Cur.i26 _)) rfl ⟨rfl, below_setRow P4.out.2 (by omega) _⟩
  · obtain ⟨hy0, hy1⟩ := HY.out rfl
    have y1 : 0 ≤ y / 65536 := by omega
    have y2 : y / 65536 ≤ 1000000000000 := by omega
    go_wp2_with (refine wpList_store_row rfl 26 (.tmp 8) (.tmp 65) rfl (w.heap.size + 1) (Cur.cs (stand (y, bk1, true))) rfl rfl 26 _ P4.out.1 (Cur.i26 _) (Cur.sz _ _) (Cur.one _) ?_)
    refine bodyPost_ret (results_cell_row rfl _ _ (w.heap.size + 1) 26 _ (0, 0) _ rfl (setRow_heap _ _ _ _ _ _ P4.out.1) Try.underlying26 rfl (Cur.i26 _)) rfl ⟨rfl, below_setRow P4.out.2 (by omega) _⟩
theorem move_any (s : S) (A : Option Addr) (n c0 g : Nat) (c : Cur) (step : Int) (held : Bool) (hL : Loops s n) (hc : CurOk n c) (hs : 0 ≤ step) (hs1 : step ≤ 268435456) (w : World) (hP : w.heap[g]? = some (.cells (s.cs A n c0) 24 (0, 0))) :
    Calls Try.prog 62 #[.pointer (some ⟨g, 0, none⟩), .agg (Cur.cs c), iv step, .bool held] w fun e w' => e = .returned (.agg (Cur.cs (moveM s n c step held))) ∧ Below w.heap.size w w' := by
  obtain ⟨ps, fr, bk, dn⟩ := c
  cases dn
  · obtain ⟨hl, hz⟩ := loops_rg hL held
    have hn := hL.1
    unfold CurOk at hc
    rw [if_neg (show ¬ (false = true) by decide)] at hc
    simp only at hc
    obtain ⟨k, a, b, hr⟩ : ∃ k a b, rgS s held = (k, a, b) := ⟨_, _, _, rfl⟩
    rw [hr] at hl hz
    simp only at hl hz
    have hm : moveM s n ⟨ps, fr, bk, false⟩ step held = stand (wayM k (ps * 65536 + fr) step bk ((n : Int) * 65536) (a * 65536) ((b - a) * 65536)) := by
      unfold moveM moveK
      rw [hr, if_neg (show ¬ (false = true) by decide)]
    have hon := way_on (back := bk) (step := step) (loop_w hl) (x := ps * 65536 + fr) (by omega) (by omega) hs
    obtain ⟨y, bk1, on, hy⟩ : ∃ y bk1 on, wayM k (ps * 65536 + fr) step bk ((n : Int) * 65536) (a * 65536) ((b - a) * 65536) = (y, bk1, on) := ⟨_, _, _, rfl⟩
    rw [hm, hy]
    rw [hy] at hon
    simp only at hon
    have hy0 : on = true → 0 ≤ y ∧ y ≤ 1000000000000 := fun h => by have := hon h; omega
    rcases hl with rfl | ⟨rfl | rfl, h1, h2, h3⟩
    · have := hz rfl
      exact move_0 s A n c0 g ps fr bk step held a b hr y bk1 on hn hs hs1 hc (by omega) (fun h => absurd rfl h) hy hy0 w hP
    · exact move_1 s A n c0 g ps fr bk step held a b hr y bk1 on hn hs hs1 hc (by omega) (fun _ => h2) hy hy0 w hP
    · exact move_2 s A n c0 g ps fr bk step held a b hr y bk1 on hn hs hs1 hc (by omega) (fun _ => h2) hy hy0 w hP
  · exact move_done s A n c0 g ps fr bk step held w
end Go.Proofs.Ytnmoiolddfboiaa.SX

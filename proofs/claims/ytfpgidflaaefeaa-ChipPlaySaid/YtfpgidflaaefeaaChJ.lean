/- The tone chip: Run and Write. -/
import Derived.Test.YtfpgidflaaefeaaChI
namespace Go.Proofs.Ytfpgidflaaefeaa.CH
open Go.RowKit Go.Proofs.YtfpgidflaaefeaaW.PrintLast
set_option linter.unusedVariables false
set_option linter.unusedSimpArgs false
theorem ownBase {w : World} {B g n c m : Nat} {xs : List Value} (h : w.ownsRow B 3 1 (.slice (some ⟨g, 0, none⟩) n c) m xs) : B ≤ g := by
  rcases h.2 with ⟨h', _⟩ | ⟨g', cap', cur, h', h1, hg, h2⟩
  · simp at h'
  · simp only [Value.slice.injEq, Option.some.injEq, Addr.mk.injEq, and_true, true_and] at h'
    obtain ⟨rfl, rfl, rfl⟩ := h'
    exact h1
theorem ownLow {w : World} {B B' n : Nat} {v : Value} {xs : List Value} (h : w.ownsRow B 3 1 v n xs) (hB : B' ≤ B) : w.ownsRow B' 3 1 v n xs := by
  refine ⟨h.1, ?_⟩
  rcases h.2 with h' | ⟨g', cap', cur, h', h1, h2⟩
  · exact .inl h'
  · exact .inr ⟨g', cap', cur, h', Nat.le_trans hB h1, h2⟩
section
variable {P : Program}
theorem wpBuild1 {ops : Array Oper} {rest : List Oper} {o : Oper} {a : Act} {w : World} {Q : Exit → Act → World → Prop} (hg : o.guard = none) (t : TypeId) (x : Operand) (ho : o.op = .build t #[(0, x)]) (v : Value) (hx : a.eval x = v) (cs : Array Value) (hb : P.built t [(0, v)] = some cs)
    (h : wpList P ops Q rest (a.put o.dst (.agg cs)) w) : wpList P ops Q (o :: rest) a w := by
  refine wpList_build hg t #[(0, x)] ho ?_ ?_
  · simp [hx, hb]
  · simpa [hx, hb] using h
theorem wpBuild0 {ops : Array Oper} {rest : List Oper} {o : Oper} {a : Act} {w : World} {Q : Exit → Act → World → Prop} (hg : o.guard = none) (t : TypeId) (ho : o.op = .build t #[]) (cs : Array Value) (hb : P.built t [] = some cs)
    (h : wpList P ops Q rest (a.put o.dst (.agg cs)) w) : wpList P ops Q (o :: rest) a w := by
  refine wpList_build hg t #[] ho ?_ ?_
  · simp [hb]
  · simpa [hb] using h
end
theorem built71 (t : T) : Try.prog.built 71 [(0, Value.agg t.cs)] = some t.cs := by kernel_rfl
theorem built71s (t : T) : (Try.prog.built 71 [(0, Value.agg t.cs)]).isSome = true := by rw [built71]; rfl
theorem built71v (t : T) : Value.agg ((Try.prog.built 71 [(0, Value.agg t.cs)]).getD #[]) = .agg t.cs := by rw [built71]; rfl
theorem built35 : Try.prog.built 35 [] = some T.zero.cs := by kernel_rfl
theorem built35s : (Try.prog.built 35 []).isSome = true := by rw [built35]; rfl
theorem built35v : Value.agg ((Try.prog.built 35 []).getD #[]) = .agg T.zero.cs := by rw [built35]; rfl
theorem zeroC : (T.zero.cs : Array Value) = #[iv 0, iv 0, iv 0, iv 0, iv 0, iv 0, iv 0, iv 0, iv 0, iv 0, iv 0, iv 0, iv 0, iv 0, iv 0, iv 0, iv 0, iv 0, iv 0, iv 0, iv 0, iv 0, iv 0, iv 0] := rfl
/-- two blocks behind two allocs, a third one behind these -/
theorem al3a (w : World) (A B C : Obj) : (((w.alloc A).alloc B).alloc C).heap[w.heap.size]? = some A := bkAlloc (heap_alloc2_old w A B) C
theorem al3b (w : World) (A B C : Obj) : (((w.alloc A).alloc B).alloc C).heap[w.heap.size + 1]? = some B := bkAlloc (heap_alloc2_new w A B) C
theorem al3c (w : World) (A B C : Obj) : (((w.alloc A).alloc B).alloc C).heap[w.heap.size + 1 + 1]? = some C := by
  have := heap_alloc_new ((w.alloc A).alloc B) C
  simpa only [World.size_alloc] using this
set_option maxHeartbeats 8000000 in
set_option maxRecDepth 100000 in
theorem run_bad (t : T) (ht : ¬ t.Ok) (n : Int) (w : World) : Calls Try.prog 20 #[.agg t.cs, iv n] w fun e w' => e = .returned (.tuple #[.slice none 0 0, .agg T.zero.cs, iv 1]) ∧ Below w.heap.size w w' := by
  have a1 := heap_alloc2_old w (Obj.cells t.cs 35) (Obj.cells #[iv 0, iv 0, iv 0, iv 0, iv 0, iv 0, iv 0, iv 0, iv 0, iv 0, iv 0, iv 0, iv 0, iv 0, iv 0, iv 0, iv 0, iv 0, iv 0, iv 0, iv 0, iv 0, iv 0, iv 0] 35)
  have a3 := al3c w (Obj.cells t.cs 35) (Obj.cells #[iv 0, iv 0, iv 0, iv 0, iv 0, iv 0, iv 0, iv 0, iv 0, iv 0, iv 0, iv 0, iv 0, iv 0, iv 0, iv 0, iv 0, iv 0, iv 0, iv 0, iv 0, iv 0, iv 0, iv 0] 35) (Obj.cells #[iv 0, iv 0, iv 0, iv 0, iv 0, iv 0, iv 0, iv 0, iv 0, iv 0, iv 0, iv 0, iv 0, iv 0, iv 0, iv 0, iv 0, iv 0, iv 0, iv 0, iv 0, iv 0, iv 0, iv 0] 71)
  have b3 := al3b w (Obj.cells t.cs 35) (Obj.cells #[iv 0, iv 0, iv 0, iv 0, iv 0, iv 0, iv 0, iv 0, iv 0, iv 0, iv 0, iv 0, iv 0, iv 0, iv 0, iv 0, iv 0, iv 0, iv 0, iv 0, iv 0, iv 0, iv 0, iv 0] 35) (Obj.cells #[iv 0, iv 0, iv 0, iv 0, iv 0, iv 0, iv 0, iv 0, iv 0, iv 0, iv 0, iv 0, iv 0, iv 0, iv 0, iv 0, iv 0, iv 0, iv 0, iv 0, iv 0, iv 0, iv 0, iv 0] 71)
  have C4 := setRow_heap _ _ _ t.cs _ _ a3
  have R4 := (setRow_other (((w.alloc (Obj.cells t.cs 35)).alloc (Obj.cells #[iv 0, iv 0, iv 0, iv 0, iv 0, iv 0, iv 0, iv 0, iv 0, iv 0, iv 0, iv 0, iv 0, iv 0, iv 0, iv 0, iv 0, iv 0, iv 0, iv 0, iv 0, iv 0, iv 0, iv 0] 35)).alloc (Obj.cells #[iv 0, iv 0, iv 0, iv 0, iv 0, iv 0, iv 0, iv 0, iv 0, iv 0, iv 0, iv 0, iv 0, iv 0, iv 0, iv 0, iv 0, iv 0, iv 0, iv 0, iv 0, iv 0, iv 0, iv 0] 71)) (w.heap.size + 1 + 1) (w.heap.size + 1) t.cs (by omega)).trans b3
  have B4 := below_setRow ((((Below.refl w.heap.size w).alloc (Nat.le_refl _) (Obj.cells t.cs 35)).alloc (by simp) (Obj.cells #[iv 0, iv 0, iv 0, iv 0, iv 0, iv 0, iv 0, iv 0, iv 0, iv 0, iv 0, iv 0, iv 0, iv 0, iv 0, iv 0, iv 0, iv 0, iv 0, iv 0, iv 0, iv 0, iv 0, iv 0] 35)).alloc (by simp; omega) (Obj.cells #[iv 0, iv 0, iv 0, iv 0, iv 0, iv 0, iv 0, iv 0, iv 0, iv 0, iv 0, iv 0, iv 0, iv 0, iv 0, iv 0, iv 0, iv 0, iv 0, iv 0, iv 0, iv 0, iv 0, iv 0] 71)) (g := w.heap.size + 1 + 1) (by omega) t.cs
  have a1H := Lib.hid a1
  have a3H := Lib.hid a3
  have C4H := Lib.hid C4
  have R4H := Lib.hid R4
  clear b3 a1 a3 C4 R4
  go_enter Try.func20, Try.ntmps20
  go_wp2_with (first
    | (refine wpList_load_row rfl 35 (.tmp 2) rfl (w.heap.size) rfl 35 _ (0, 0) _ a1H.out Try.underlying35 rfl (T.i35 _) ?_)
    | (refine wpBuild1 rfl 71 (.tmp 9) rfl (.agg t.cs) rfl t.cs (built71 t) ?_)
    | (refine wpList_store_row rfl 71 (.tmp 7) (.tmp 10) rfl (w.heap.size + 1 + 1) t.cs rfl rfl 71 _ a3H.out (T.i71 _) (T.sz T.zero _) (T.one _) ?_)
    | (refine wpList_load_row rfl 71 (.tmp 7) rfl (w.heap.size + 1 + 1) rfl 71 _ (0, 0) _ C4H.out Try.underlying71 rfl (T.i71 _) ?_)
    | (go_at_call 41; (with_reducible refine (ok_no t ht _).mono ?_); rintro e w5 ⟨rfl, hb5⟩; have R5 := bkBelow R4H.out hb5; have B5 := bdT B4 B4.size hb5)
    | (refine wpBuild0 rfl 35 rfl T.zero.cs built35 ?_)
    | (refine wpList_store_row rfl 35 (.tmp 5) (.tmp 14) rfl (w.heap.size + 1) T.zero.cs rfl rfl 35 _ R5 (T.i35 _) (T.sz T.zero _) (T.one _) ?_))
  refine bodyPost_ret (res_tct rfl _ _ (w.heap.size + 1) 35 _ (0, 0) _ rfl (setRow_heap _ _ _ _ _ _ R5) Try.underlying35 rfl (T.i35 _)) rfl ⟨rfl, below_setRow B5 (by omega) _⟩
set_option maxHeartbeats 8000000 in
set_option maxRecDepth 100000 in
theorem run_range (t : T) (ht : t.Ok) (n : Int) (hn : n < 0 ∨ 200000 < n) (w : World) : Calls Try.prog 20 #[.agg t.cs, iv n] w fun e w' => e = .returned (.tuple #[.slice none 0 0, .agg T.zero.cs, iv 5]) ∧ Below w.heap.size w w' := by
  have a1 := heap_alloc2_old w (Obj.cells t.cs 35) (Obj.cells #[iv 0, iv 0, iv 0, iv 0, iv 0, iv 0, iv 0, iv 0, iv 0, iv 0, iv 0, iv 0, iv 0, iv 0, iv 0, iv 0, iv 0, iv 0, iv 0, iv 0, iv 0, iv 0, iv 0, iv 0] 35)
  have a3 := al3c w (Obj.cells t.cs 35) (Obj.cells #[iv 0, iv 0, iv 0, iv 0, iv 0, iv 0, iv 0, iv 0, iv 0, iv 0, iv 0, iv 0, iv 0, iv 0, iv 0, iv 0, iv 0, iv 0, iv 0, iv 0, iv 0, iv 0, iv 0, iv 0] 35) (Obj.cells #[iv 0, iv 0, iv 0, iv 0, iv 0, iv 0, iv 0, iv 0, iv 0, iv 0, iv 0, iv 0, iv 0, iv 0, iv 0, iv 0, iv 0, iv 0, iv 0, iv 0, iv 0, iv 0, iv 0, iv 0] 71)
  have b3 := al3b w (Obj.cells t.cs 35) (Obj.cells #[iv 0, iv 0, iv 0, iv 0, iv 0, iv 0, iv 0, iv 0, iv 0, iv 0, iv 0, iv 0, iv 0, iv 0, iv 0, iv 0, iv 0, iv 0, iv 0, iv 0, iv 0, iv 0, iv 0, iv 0] 35) (Obj.cells #[iv 0, iv 0, iv 0, iv 0, iv 0, iv 0, iv 0, iv 0, iv 0, iv 0, iv 0, iv 0, iv 0, iv 0, iv 0, iv 0, iv 0, iv 0, iv 0, iv 0, iv 0, iv 0, iv 0, iv 0] 71)
  have C4 := setRow_heap _ _ _ t.cs _ _ a3
  have R4 := (setRow_other (((w.alloc (Obj.cells t.cs 35)).alloc (Obj.cells #[iv 0, iv 0, iv 0, iv 0, iv 0, iv 0, iv 0, iv 0, iv 0, iv 0, iv 0, iv 0, iv 0, iv 0, iv 0, iv 0, iv 0, iv 0, iv 0, iv 0, iv 0, iv 0, iv 0, iv 0] 35)).alloc (Obj.cells #[iv 0, iv 0, iv 0, iv 0, iv 0, iv 0, iv 0, iv 0, iv 0, iv 0, iv 0, iv 0, iv 0, iv 0, iv 0, iv 0, iv 0, iv 0, iv 0, iv 0, iv 0, iv 0, iv 0, iv 0] 71)) (w.heap.size + 1 + 1) (w.heap.size + 1) t.cs (by omega)).trans b3
  have B4 := below_setRow ((((Below.refl w.heap.size w).alloc (Nat.le_refl _) (Obj.cells t.cs 35)).alloc (by simp) (Obj.cells #[iv 0, iv 0, iv 0, iv 0, iv 0, iv 0, iv 0, iv 0, iv 0, iv 0, iv 0, iv 0, iv 0, iv 0, iv 0, iv 0, iv 0, iv 0, iv 0, iv 0, iv 0, iv 0, iv 0, iv 0] 35)).alloc (by simp; omega) (Obj.cells #[iv 0, iv 0, iv 0, iv 0, iv 0, iv 0, iv 0, iv 0, iv 0, iv 0, iv 0, iv 0, iv 0, iv 0, iv 0, iv 0, iv 0, iv 0, iv 0, iv 0, iv 0, iv 0, iv 0, iv 0] 71)) (g := w.heap.size + 1 + 1) (by omega) t.cs
  have a1H := Lib.hid a1
  have a3H := Lib.hid a3
  have C4H := Lib.hid C4
  have R4H := Lib.hid R4
  clear b3 a1 a3 C4 R4
  go_enter Try.func20, Try.ntmps20
  go_wp2_with (first
    | (refine wpList_load_row rfl 35 (.tmp 2) rfl (w.heap.size) rfl 35 _ (0, 0) _ a1H.out Try.underlying35 rfl (T.i35 _) ?_)
    | (refine wpBuild1 rfl 71 (.tmp 9) rfl (.agg t.cs) rfl t.cs (built71 t) ?_)
    | (refine wpList_store_row rfl 71 (.tmp 7) (.tmp 10) rfl (w.heap.size + 1 + 1) t.cs rfl rfl 71 _ a3H.out (T.i71 _) (T.sz T.zero _) (T.one _) ?_)
    | (refine wpList_load_row rfl 71 (.tmp 7) rfl (w.heap.size + 1 + 1) rfl 71 _ (0, 0) _ C4H.out Try.underlying71 rfl (T.i71 _) ?_)
    | (go_at_call 41; (with_reducible refine (ok_yes t ht _).mono ?_); rintro e w5 ⟨rfl, hb5⟩; have R5 := bkBelow R4H.out hb5; have B5 := bdT B4 B4.size hb5)
    | (go_at_call 35; (with_reducible refine (in_no _ _ _ _ hn).mono ?_); rintro e w6 ⟨rfl, rfl⟩)
    | (refine wpBuild0 rfl 35 rfl T.zero.cs built35 ?_)
    | (refine wpList_store_row rfl 35 (.tmp 5) (.tmp 18) rfl (w.heap.size + 1) T.zero.cs rfl rfl 35 _ R5 (T.i35 _) (T.sz T.zero _) (T.one _) ?_))
  refine bodyPost_ret (res_tct rfl _ _ (w.heap.size + 1) 35 _ (0, 0) _ rfl (setRow_heap _ _ _ _ _ _ R5) Try.underlying35 rfl (T.i35 _)) rfl ⟨rfl, below_setRow B5 (by omega) _⟩
set_option maxHeartbeats 8000000 in
set_option maxRecDepth 100000 in
theorem run_fine (t : T) (ht : t.Ok) (n : Nat) (hn : n ≤ 200000) (w : World) : Calls Try.prog 20 #[.agg t.cs, iv n] w fun e w' => ∃ g, e = .returned (.tuple #[.slice (some ⟨g, 0, none⟩) n n, .agg (t.run n).cs, iv 0]) ∧ w'.ownsRow w.heap.size 3 1 (.slice (some ⟨g, 0, none⟩) n n) n ((t.vals n).map iv) ∧ Below w.heap.size w w' := by
  have a1 := heap_alloc2_old w (Obj.cells t.cs 35) (Obj.cells #[iv 0, iv 0, iv 0, iv 0, iv 0, iv 0, iv 0, iv 0, iv 0, iv 0, iv 0, iv 0, iv 0, iv 0, iv 0, iv 0, iv 0, iv 0, iv 0, iv 0, iv 0, iv 0, iv 0, iv 0] 35)
  have a3 := al3c w (Obj.cells t.cs 35) (Obj.cells #[iv 0, iv 0, iv 0, iv 0, iv 0, iv 0, iv 0, iv 0, iv 0, iv 0, iv 0, iv 0, iv 0, iv 0, iv 0, iv 0, iv 0, iv 0, iv 0, iv 0, iv 0, iv 0, iv 0, iv 0] 35) (Obj.cells #[iv 0, iv 0, iv 0, iv 0, iv 0, iv 0, iv 0, iv 0, iv 0, iv 0, iv 0, iv 0, iv 0, iv 0, iv 0, iv 0, iv 0, iv 0, iv 0, iv 0, iv 0, iv 0, iv 0, iv 0] 71)
  have b3 := al3b w (Obj.cells t.cs 35) (Obj.cells #[iv 0, iv 0, iv 0, iv 0, iv 0, iv 0, iv 0, iv 0, iv 0, iv 0, iv 0, iv 0, iv 0, iv 0, iv 0, iv 0, iv 0, iv 0, iv 0, iv 0, iv 0, iv 0, iv 0, iv 0] 35) (Obj.cells #[iv 0, iv 0, iv 0, iv 0, iv 0, iv 0, iv 0, iv 0, iv 0, iv 0, iv 0, iv 0, iv 0, iv 0, iv 0, iv 0, iv 0, iv 0, iv 0, iv 0, iv 0, iv 0, iv 0, iv 0] 71)
  have C4 := setRow_heap _ _ _ t.cs _ _ a3
  have R4 := (setRow_other (((w.alloc (Obj.cells t.cs 35)).alloc (Obj.cells #[iv 0, iv 0, iv 0, iv 0, iv 0, iv 0, iv 0, iv 0, iv 0, iv 0, iv 0, iv 0, iv 0, iv 0, iv 0, iv 0, iv 0, iv 0, iv 0, iv 0, iv 0, iv 0, iv 0, iv 0] 35)).alloc (Obj.cells #[iv 0, iv 0, iv 0, iv 0, iv 0, iv 0, iv 0, iv 0, iv 0, iv 0, iv 0, iv 0, iv 0, iv 0, iv 0, iv 0, iv 0, iv 0, iv 0, iv 0, iv 0, iv 0, iv 0, iv 0] 71)) (w.heap.size + 1 + 1) (w.heap.size + 1) t.cs (by omega)).trans b3
  have B4 := below_setRow ((((Below.refl w.heap.size w).alloc (Nat.le_refl _) (Obj.cells t.cs 35)).alloc (by simp) (Obj.cells #[iv 0, iv 0, iv 0, iv 0, iv 0, iv 0, iv 0, iv 0, iv 0, iv 0, iv 0, iv 0, iv 0, iv 0, iv 0, iv 0, iv 0, iv 0, iv 0, iv 0, iv 0, iv 0, iv 0, iv 0] 35)).alloc (by simp; omega) (Obj.cells #[iv 0, iv 0, iv 0, iv 0, iv 0, iv 0, iv 0, iv 0, iv 0, iv 0, iv 0, iv 0, iv 0, iv 0, iv 0, iv 0, iv 0, iv 0, iv 0, iv 0, iv 0, iv 0, iv 0, iv 0] 71)) (g := w.heap.size + 1 + 1) (by omega) t.cs
  have a1H := Lib.hid a1
  have a3H := Lib.hid a3
  have C4H := Lib.hid C4
  have R4H := Lib.hid R4
  clear b3 a1 a3 C4 R4
  have hn0 : (0 : Int) ≤ n := by omega
  have hn1 : (n : Int) ≤ 200000 := by omega
  go_enter Try.func20, Try.ntmps20
  go_wp2_with (first
    | (refine wpList_load_row rfl 35 (.tmp 2) rfl (w.heap.size) rfl 35 _ (0, 0) _ a1H.out Try.underlying35 rfl (T.i35 _) ?_)
    | (refine wpBuild1 rfl 71 (.tmp 9) rfl (.agg t.cs) rfl t.cs (built71 t) ?_)
    | (refine wpList_store_row rfl 71 (.tmp 7) (.tmp 10) rfl (w.heap.size + 1 + 1) t.cs rfl rfl 71 _ a3H.out (T.i71 _) (T.sz T.zero _) (T.one _) ?_)
    | (refine wpList_load_row rfl 71 (.tmp 7) rfl (w.heap.size + 1 + 1) rfl 71 _ (0, 0) _ C4H.out Try.underlying71 rfl (T.i71 _) ?_)
    | (go_at_call 41; (with_reducible refine (ok_yes t ht _).mono ?_); rintro e w5 ⟨rfl, hb5⟩; have R5 := bkBelow R4H.out hb5; have C5 := bkBelow C4H.out hb5; have B5 := bdT B4 B4.size hb5; clear R4H B4 hb5; have hC5 := Lib.hid (bkLt C5); clear C4H)
    | (go_at_call 35; (with_reducible refine (in_yes _ _ _ _ hn0 hn1).mono ?_); rintro e w6 ⟨rfl, rfl⟩)
    | (refine wpList_load_row rfl 71 (.tmp 7) rfl (w.heap.size + 1 + 1) rfl 71 _ (0, 0) _ C5 Try.underlying71 rfl (T.i71 _) ?_)
    | (go_at_call 42; (with_reducible refine (runs_any t ht n hn _).mono ?_); rintro e w6 ⟨g, rfl, O6, hb6⟩; have R6 := bkBelow R5 hb6; have C6 := bkBelow C5 hb6; have B6 := bdT B5 B5.size hb6; have hg6 : w5.heap.size ≤ g := ownBase O6; clear R5 C5 hb6)
    | (refine wpList_store_row rfl 71 (.tmp 7) (.tmp 24) rfl (w.heap.size + 1 + 1) (T.run t n).cs rfl rfl 71 _ C6 (T.i71 _) (T.sz T.zero _) (T.one _) ?_))
  have hs5 : w.heap.size + 1 + 1 < w5.heap.size := hC5.out
  have C7 := setRow_heap _ _ _ (T.run t n).cs _ _ C6
  have R7 := (setRow_other w6 (w.heap.size + 1 + 1) (w.heap.size + 1) (T.run t n).cs (by omega)).trans R6
  have O7 := ownLow (ownFar O6 (w.heap.size + 1 + 1) (by omega) (T.run t n).cs) B5.size
  have B7 := below_setRow B6 (g := w.heap.size + 1 + 1) (by omega) (T.run t n).cs
  refine start_ (n := 6) (S := fun w' => w'.heap[w.heap.size + 1 + 1]? = some (.cells (T.run t n).cs 71 (0, 0)) ∧ w'.heap[w.heap.size + 1]? = some (.cells #[iv 0, iv 0, iv 0, iv 0, iv 0, iv 0, iv 0, iv 0, iv 0, iv 0, iv 0, iv 0, iv 0, iv 0, iv 0, iv 0, iv 0, iv 0, iv 0, iv 0, iv 0, iv 0, iv 0, iv 0] 35 (0, 0)) ∧ w'.ownsRow w.heap.size 3 1 (.slice (some ⟨g, 0, none⟩) n n) n ((T.vals t n).map iv) ∧ Below w.heap.size w w') (ds := [4]) #[false, false, false, false, false, false] (by kernel_rfl) rfl rfl ⟨C7, R7, O7.drew, B7.drew⟩ (fun hHeld => ?_)
  refine pure_ (i := 0) (N := some 25) (v := ?_) (a' := ?_) #[true, false, false, false, false, false] rfl rfl (by kernel_rfl) (fun _ _ _ h => h) (Or.inl ⟨by rfl, ?_⟩) ?_ ?_
  rotate_left
  · intro w'
    go_simp
    with_reducible rfl
  rotate_left
  · simp only [Act.put, List.setIfInBounds_toArray, List.set_cons_zero, List.set_cons_succ, i64_w, i32_w]
    rfl
  refine pure_ (i := 1) (N := some 26) (v := ?_) (a' := ?_) #[true, true, false, false, false, false] rfl rfl (by kernel_rfl) (fun _ _ _ h => h) (Or.inl ⟨by rfl, ?_⟩) ?_ ?_
  rotate_left
  · intro w'
    go_simp
    with_reducible rfl
  rotate_left
  · simp only [Act.put, List.setIfInBounds_toArray, List.set_cons_zero, List.set_cons_succ, i64_w, i32_w]
    rfl
  refine pure_ (i := 3) (N := some 4) (v := ?_) (a' := ?_) #[true, true, false, true, false, false] rfl rfl (by kernel_rfl) (fun _ _ _ h => h) (Or.inl ⟨by rfl, ?_⟩) ?_ ?_
  rotate_left
  · intro w'
    go_simp
    with_reducible rfl
  rotate_left
  · simp only [Act.put, List.setIfInBounds_toArray, List.set_cons_zero, List.set_cons_succ, i64_w, i32_w]
    rfl
  refine take_ (i := 2) (N := some 27) (v := ?_) (a' := ?_) #[true, true, true, true, false, false] rfl rfl (by kernel_rfl) (fun _ _ _ h => h) (Or.inl ⟨by rfl, ?_⟩) hHeld ?_ ?_
  rotate_left
  · rintro w' ⟨s0, s1, s2, s3⟩
    refine exec_load_row 35 (.tmp 26) ?_ (w.heap.size + 1 + 1) ?_ 71 _ _ _ s0 Try.underlying35 rfl (T.i35 _) <;> rfl
  rotate_left
  · simp only [Act.put, List.setIfInBounds_toArray, List.set_cons_zero, List.set_cons_succ, i64_w, i32_w]
    rfl
  refine last_ (i := 4) (N := none) #[true, true, true, true, true, false] rfl rfl (by kernel_rfl) (by decide) (fun K hK => ?_)
  obtain ⟨T9, Z9, O9, B9⟩ := hHeld
  refine skip_ (w1 := ?_) (by rfl) rfl ?_ ?_
  rotate_left
  · refine exec_store_row 35 (.tmp 5) (.tmp 27) ?_ (w.heap.size + 1) (T.run t n).cs ?_ ?_ 35 _ Z9 (T.i35 _) (T.sz T.zero _) (T.one _) <;> rfl
  refine hK.out _ _ ?_
  clear hK K
  refine pure_ (i := 5) (N := some 6) (v := ?_) (a' := ?_) #[true, true, true, true, true, true] rfl rfl (by kernel_rfl) (fun _ _ _ h => h) (Or.inl ⟨by rfl, ?_⟩) ?_ ?_
  rotate_left
  · intro w'
    go_simp
    with_reducible rfl
  rotate_left
  · simp only [Act.put, List.setIfInBounds_toArray, List.set_cons_zero, List.set_cons_succ, i64_w, i32_w]
    rfl
  refine done_ (by kernel_rfl) ?_
  go_wp2
  refine bodyPost_ret (res_tct rfl _ _ (w.heap.size + 1) 35 _ (0, 0) _ rfl (setRow_heap _ _ _ _ _ _ Z9) Try.underlying35 rfl (T.i35 _)) rfl ⟨g, rfl, ownFar O9 _ (by omega) _, below_setRow B9 (by omega) _⟩
set_option maxHeartbeats 8000000 in
set_option maxRecDepth 100000 in
theorem write_bad (t : T) (ht : ¬ t.Ok) (r v : Int) (w : World) : Calls Try.prog 27 #[.agg t.cs, iv r, iv v] w fun e w' => e = .returned (.tuple #[.agg T.zero.cs, iv 1]) ∧ Below w.heap.size w w' := by
  have a1 := heap_alloc2_old w (Obj.cells t.cs 35) (Obj.cells #[iv 0, iv 0, iv 0, iv 0, iv 0, iv 0, iv 0, iv 0, iv 0, iv 0, iv 0, iv 0, iv 0, iv 0, iv 0, iv 0, iv 0, iv 0, iv 0, iv 0, iv 0, iv 0, iv 0, iv 0] 35)
  have a3 := al3c w (Obj.cells t.cs 35) (Obj.cells #[iv 0, iv 0, iv 0, iv 0, iv 0, iv 0, iv 0, iv 0, iv 0, iv 0, iv 0, iv 0, iv 0, iv 0, iv 0, iv 0, iv 0, iv 0, iv 0, iv 0, iv 0, iv 0, iv 0, iv 0] 35) (Obj.cells #[iv 0, iv 0, iv 0, iv 0, iv 0, iv 0, iv 0, iv 0, iv 0, iv 0, iv 0, iv 0, iv 0, iv 0, iv 0, iv 0, iv 0, iv 0, iv 0, iv 0, iv 0, iv 0, iv 0, iv 0] 71)
  have b3 := al3b w (Obj.cells t.cs 35) (Obj.cells #[iv 0, iv 0, iv 0, iv 0, iv 0, iv 0, iv 0, iv 0, iv 0, iv 0, iv 0, iv 0, iv 0, iv 0, iv 0, iv 0, iv 0, iv 0, iv 0, iv 0, iv 0, iv 0, iv 0, iv 0] 35) (Obj.cells #[iv 0, iv 0, iv 0, iv 0, iv 0, iv 0, iv 0, iv 0, iv 0, iv 0, iv 0, iv 0, iv 0, iv 0, iv 0, iv 0, iv 0, iv 0, iv 0, iv 0, iv 0, iv 0, iv 0, iv 0] 71)
  have C4 := setRow_heap _ _ _ t.cs _ _ a3
  have R4 := (setRow_other (((w.alloc (Obj.cells t.cs 35)).alloc (Obj.cells #[iv 0, iv 0, iv 0, iv 0, iv 0, iv 0, iv 0, iv 0, iv 0, iv 0, iv 0, iv 0, iv 0, iv 0, iv 0, iv 0, iv 0, iv 0, iv 0, iv 0, iv 0, iv 0, iv 0, iv 0] 35)).alloc (Obj.cells #[iv 0, iv 0, iv 0, iv 0, iv 0, iv 0, iv 0, iv 0, iv 0, iv 0, iv 0, iv 0, iv 0, iv 0, iv 0, iv 0, iv 0, iv 0, iv 0, iv 0, iv 0, iv 0, iv 0, iv 0] 71)) (w.heap.size + 1 + 1) (w.heap.size + 1) t.cs (by omega)).trans b3
  have B4 := below_setRow ((((Below.refl w.heap.size w).alloc (Nat.le_refl _) (Obj.cells t.cs 35)).alloc (by simp) (Obj.cells #[iv 0, iv 0, iv 0, iv 0, iv 0, iv 0, iv 0, iv 0, iv 0, iv 0, iv 0, iv 0, iv 0, iv 0, iv 0, iv 0, iv 0, iv 0, iv 0, iv 0, iv 0, iv 0, iv 0, iv 0] 35)).alloc (by simp; omega) (Obj.cells #[iv 0, iv 0, iv 0, iv 0, iv 0, iv 0, iv 0, iv 0, iv 0, iv 0, iv 0, iv 0, iv 0, iv 0, iv 0, iv 0, iv 0, iv 0, iv 0, iv 0, iv 0, iv 0, iv 0, iv 0] 71)) (g := w.heap.size + 1 + 1) (by omega) t.cs
  have a1H := Lib.hid a1
  have a3H := Lib.hid a3
  have C4H := Lib.hid C4
  have R4H := Lib.hid R4
  clear b3 a1 a3 C4 R4
  go_enter Try.func27, Try.ntmps27
  go_wp2_with (first
    | (refine wpList_load_row rfl 35 (.tmp 3) rfl (w.heap.size) rfl 35 _ (0, 0) _ a1H.out Try.underlying35 rfl (T.i35 _) ?_)
    | (refine wpBuild1 rfl 71 (.tmp 9) rfl (.agg t.cs) rfl t.cs (built71 t) ?_)
    | (refine wpList_store_row rfl 71 (.tmp 8) (.tmp 10) rfl (w.heap.size + 1 + 1) t.cs rfl rfl 71 _ a3H.out (T.i71 _) (T.sz T.zero _) (T.one _) ?_)
    | (refine wpList_load_row rfl 71 (.tmp 8) rfl (w.heap.size + 1 + 1) rfl 71 _ (0, 0) _ C4H.out Try.underlying71 rfl (T.i71 _) ?_)
    | (go_at_call 41; (with_reducible refine (ok_no t ht _).mono ?_); rintro e w5 ⟨rfl, hb5⟩; have R5 := bkBelow R4H.out hb5; have B5 := bdT B4 B4.size hb5)
    | (refine wpBuild0 rfl 35 rfl T.zero.cs built35 ?_)
    | (refine wpList_store_row rfl 35 (.tmp 6) (.tmp 14) rfl (w.heap.size + 1) T.zero.cs rfl rfl 35 _ R5 (T.i35 _) (T.sz T.zero _) (T.one _) ?_))
  refine bodyPost_ret (res_ct rfl _ _ (w.heap.size + 1) 35 _ (0, 0) _ rfl (setRow_heap _ _ _ _ _ _ R5) Try.underlying35 rfl (T.i35 _)) rfl ⟨rfl, below_setRow B5 (by omega) _⟩
set_option maxHeartbeats 8000000 in
set_option maxRecDepth 100000 in
theorem write_range_a (t : T) (ht : t.Ok) (r v : Int) (hr : r < 0 ∨ 13 < r) (w : World) : Calls Try.prog 27 #[.agg t.cs, iv r, iv v] w fun e w' => e = .returned (.tuple #[.agg T.zero.cs, iv 5]) ∧ Below w.heap.size w w' := by
  have a1 := heap_alloc2_old w (Obj.cells t.cs 35) (Obj.cells #[iv 0, iv 0, iv 0, iv 0, iv 0, iv 0, iv 0, iv 0, iv 0, iv 0, iv 0, iv 0, iv 0, iv 0, iv 0, iv 0, iv 0, iv 0, iv 0, iv 0, iv 0, iv 0, iv 0, iv 0] 35)
  have a3 := al3c w (Obj.cells t.cs 35) (Obj.cells #[iv 0, iv 0, iv 0, iv 0, iv 0, iv 0, iv 0, iv 0, iv 0, iv 0, iv 0, iv 0, iv 0, iv 0, iv 0, iv 0, iv 0, iv 0, iv 0, iv 0, iv 0, iv 0, iv 0, iv 0] 35) (Obj.cells #[iv 0, iv 0, iv 0, iv 0, iv 0, iv 0, iv 0, iv 0, iv 0, iv 0, iv 0, iv 0, iv 0, iv 0, iv 0, iv 0, iv 0, iv 0, iv 0, iv 0, iv 0, iv 0, iv 0, iv 0] 71)
  have b3 := al3b w (Obj.cells t.cs 35) (Obj.cells #[iv 0, iv 0, iv 0, iv 0, iv 0, iv 0, iv 0, iv 0, iv 0, iv 0, iv 0, iv 0, iv 0, iv 0, iv 0, iv 0, iv 0, iv 0, iv 0, iv 0, iv 0, iv 0, iv 0, iv 0] 35) (Obj.cells #[iv 0, iv 0, iv 0, iv 0, iv 0, iv 0, iv 0, iv 0, iv 0, iv 0, iv 0, iv 0, iv 0, iv 0, iv 0, iv 0, iv 0, iv 0, iv 0, iv 0, iv 0, iv 0, iv 0, iv 0] 71)
  have C4 := setRow_heap _ _ _ t.cs _ _ a3
  have R4 := (setRow_other (((w.alloc (Obj.cells t.cs 35)).alloc (Obj.cells #[iv 0, iv 0, iv 0, iv 0, iv 0, iv 0, iv 0, iv 0, iv 0, iv 0, iv 0, iv 0, iv 0, iv 0, iv 0, iv 0, iv 0, iv 0, iv 0, iv 0, iv 0, iv 0, iv 0, iv 0] 35)).alloc (Obj.cells #[iv 0, iv 0, iv 0, iv 0, iv 0, iv 0, iv 0, iv 0, iv 0, iv 0, iv 0, iv 0, iv 0, iv 0, iv 0, iv 0, iv 0, iv 0, iv 0, iv 0, iv 0, iv 0, iv 0, iv 0] 71)) (w.heap.size + 1 + 1) (w.heap.size + 1) t.cs (by omega)).trans b3
  have B4 := below_setRow ((((Below.refl w.heap.size w).alloc (Nat.le_refl _) (Obj.cells t.cs 35)).alloc (by simp) (Obj.cells #[iv 0, iv 0, iv 0, iv 0, iv 0, iv 0, iv 0, iv 0, iv 0, iv 0, iv 0, iv 0, iv 0, iv 0, iv 0, iv 0, iv 0, iv 0, iv 0, iv 0, iv 0, iv 0, iv 0, iv 0] 35)).alloc (by simp; omega) (Obj.cells #[iv 0, iv 0, iv 0, iv 0, iv 0, iv 0, iv 0, iv 0, iv 0, iv 0, iv 0, iv 0, iv 0, iv 0, iv 0, iv 0, iv 0, iv 0, iv 0, iv 0, iv 0, iv 0, iv 0, iv 0] 71)) (g := w.heap.size + 1 + 1) (by omega) t.cs
  have a1H := Lib.hid a1
  have a3H := Lib.hid a3
  have C4H := Lib.hid C4
  have R4H := Lib.hid R4
  clear b3 a1 a3 C4 R4
  go_enter Try.func27, Try.ntmps27
  go_wp2_with (first
    | (refine wpList_load_row rfl 35 (.tmp 3) rfl (w.heap.size) rfl 35 _ (0, 0) _ a1H.out Try.underlying35 rfl (T.i35 _) ?_)
    | (refine wpBuild1 rfl 71 (.tmp 9) rfl (.agg t.cs) rfl t.cs (built71 t) ?_)
    | (refine wpList_store_row rfl 71 (.tmp 8) (.tmp 10) rfl (w.heap.size + 1 + 1) t.cs rfl rfl 71 _ a3H.out (T.i71 _) (T.sz T.zero _) (T.one _) ?_)
    | (refine wpList_load_row rfl 71 (.tmp 8) rfl (w.heap.size + 1 + 1) rfl 71 _ (0, 0) _ C4H.out Try.underlying71 rfl (T.i71 _) ?_)
    | (go_at_call 41; (with_reducible refine (ok_yes t ht _).mono ?_); rintro e w5 ⟨rfl, hb5⟩; have R5 := bkBelow R4H.out hb5; have B5 := bdT B4 B4.size hb5)
    | (go_at_call 35; (with_reducible refine (in_no _ _ _ _ hr).mono ?_); rintro e w6 ⟨rfl, rfl⟩)
    | (refine wpBuild0 rfl 35 rfl T.zero.cs built35 ?_)
    | (refine wpList_store_row rfl 35 (.tmp 6) (.tmp 23) rfl (w.heap.size + 1) T.zero.cs rfl rfl 35 _ R5 (T.i35 _) (T.sz T.zero _) (T.one _) ?_))
  refine bodyPost_ret (res_ct rfl _ _ (w.heap.size + 1) 35 _ (0, 0) _ rfl (setRow_heap _ _ _ _ _ _ R5) Try.underlying35 rfl (T.i35 _)) rfl ⟨rfl, below_setRow B5 (by omega) _⟩
set_option maxHeartbeats 8000000 in
set_option maxRecDepth 100000 in
theorem write_range_b (t : T) (ht : t.Ok) (r v : Int) (hr0 : 0 ≤ r) (hr1 : r ≤ 13) (hv : v < 0 ∨ 255 < v) (w : World) : Calls Try.prog 27 #[.agg t.cs, iv r, iv v] w fun e w' => e = .returned (.tuple #[.agg T.zero.cs, iv 5]) ∧ Below w.heap.size w w' := by
  have a1 := heap_alloc2_old w (Obj.cells t.cs 35) (Obj.cells #[iv 0, iv 0, iv 0, iv 0, iv 0, iv 0, iv 0, iv 0, iv 0, iv 0, iv 0, iv 0, iv 0, iv 0, iv 0, iv 0, iv 0, iv 0, iv 0, iv 0, iv 0, iv 0, iv 0, iv 0] 35)
  have a3 := al3c w (Obj.cells t.cs 35) (Obj.cells #[iv 0, iv 0, iv 0, iv 0, iv 0, iv 0, iv 0, iv 0, iv 0, iv 0, iv 0, iv 0, iv 0, iv 0, iv 0, iv 0, iv 0, iv 0, iv 0, iv 0, iv 0, iv 0, iv 0, iv 0] 35) (Obj.cells #[iv 0, iv 0, iv 0, iv 0, iv 0, iv 0, iv 0, iv 0, iv 0, iv 0, iv 0, iv 0, iv 0, iv 0, iv 0, iv 0, iv 0, iv 0, iv 0, iv 0, iv 0, iv 0, iv 0, iv 0] 71)
  have b3 := al3b w (Obj.cells t.cs 35) (Obj.cells #[iv 0, iv 0, iv 0, iv 0, iv 0, iv 0, iv 0, iv 0, iv 0, iv 0, iv 0, iv 0, iv 0, iv 0, iv 0, iv 0, iv 0, iv 0, iv 0, iv 0, iv 0, iv 0, iv 0, iv 0] 35) (Obj.cells #[iv 0, iv 0, iv 0, iv 0, iv 0, iv 0, iv 0, iv 0, iv 0, iv 0, iv 0, iv 0, iv 0, iv 0, iv 0, iv 0, iv 0, iv 0, iv 0, iv 0, iv 0, iv 0, iv 0, iv 0] 71)
  have C4 := setRow_heap _ _ _ t.cs _ _ a3
  have R4 := (setRow_other (((w.alloc (Obj.cells t.cs 35)).alloc (Obj.cells #[iv 0, iv 0, iv 0, iv 0, iv 0, iv 0, iv 0, iv 0, iv 0, iv 0, iv 0, iv 0, iv 0, iv 0, iv 0, iv 0, iv 0, iv 0, iv 0, iv 0, iv 0, iv 0, iv 0, iv 0] 35)).alloc (Obj.cells #[iv 0, iv 0, iv 0, iv 0, iv 0, iv 0, iv 0, iv 0, iv 0, iv 0, iv 0, iv 0, iv 0, iv 0, iv 0, iv 0, iv 0, iv 0, iv 0, iv 0, iv 0, iv 0, iv 0, iv 0] 71)) (w.heap.size + 1 + 1) (w.heap.size + 1) t.cs (by omega)).trans b3
  have B4 := below_setRow ((((Below.refl w.heap.size w).alloc (Nat.le_refl _) (Obj.cells t.cs 35)).alloc (by simp) (Obj.cells #[iv 0, iv 0, iv 0, iv 0, iv 0, iv 0, iv 0, iv 0, iv 0, iv 0, iv 0, iv 0, iv 0, iv 0, iv 0, iv 0, iv 0, iv 0, iv 0, iv 0, iv 0, iv 0, iv 0, iv 0] 35)).alloc (by simp; omega) (Obj.cells #[iv 0, iv 0, iv 0, iv 0, iv 0, iv 0, iv 0, iv 0, iv 0, iv 0, iv 0, iv 0, iv 0, iv 0, iv 0, iv 0, iv 0, iv 0, iv 0, iv 0, iv 0, iv 0, iv 0, iv 0] 71)) (g := w.heap.size + 1 + 1) (by omega) t.cs
  have a1H := Lib.hid a1
  have a3H := Lib.hid a3
  have C4H := Lib.hid C4
  have R4H := Lib.hid R4
  clear b3 a1 a3 C4 R4
  go_enter Try.func27, Try.ntmps27
  go_wp2_with (first
    | (refine wpList_load_row rfl 35 (.tmp 3) rfl (w.heap.size) rfl 35 _ (0, 0) _ a1H.out Try.underlying35 rfl (T.i35 _) ?_)
    | (refine wpBuild1 rfl 71 (.tmp 9) rfl (.agg t.cs) rfl t.cs (built71 t) ?_)
    | (refine wpList_store_row rfl 71 (.tmp 8) (.tmp 10) rfl (w.heap.size + 1 + 1) t.cs rfl rfl 71 _ a3H.out (T.i71 _) (T.sz T.zero _) (T.one _) ?_)
    | (refine wpList_load_row rfl 71 (.tmp 8) rfl (w.heap.size + 1 + 1) rfl 71 _ (0, 0) _ C4H.out Try.underlying71 rfl (T.i71 _) ?_)
    | (go_at_call 41; (with_reducible refine (ok_yes t ht _).mono ?_); rintro e w5 ⟨rfl, hb5⟩; have R5 := bkBelow R4H.out hb5; have B5 := bdT B4 B4.size hb5)
    | (go_at_call 35; (first | (with_reducible refine (in_yes r 0 13 _ hr0 hr1).mono ?_) | (with_reducible refine (in_no v 0 255 _ hv).mono ?_)); rintro e w6 ⟨rfl, rfl⟩)
    | (refine wpBuild0 rfl 35 rfl T.zero.cs built35 ?_)
    | (refine wpList_store_row rfl 35 (.tmp 6) (.tmp 23) rfl (w.heap.size + 1) T.zero.cs rfl rfl 35 _ R5 (T.i35 _) (T.sz T.zero _) (T.one _) ?_))
  refine bodyPost_ret (res_ct rfl _ _ (w.heap.size + 1) 35 _ (0, 0) _ rfl (setRow_heap _ _ _ _ _ _ R5) Try.underlying35 rfl (T.i35 _)) rfl ⟨rfl, below_setRow B5 (by omega) _⟩
set_option maxHeartbeats 8000000 in
set_option maxRecDepth 100000 in
theorem write_fine (t : T) (ht : t.Ok) (r v : Int) (hr0 : 0 ≤ r) (hr1 : r ≤ 13) (hv0 : 0 ≤ v) (hv1 : v ≤ 255) (w : World) : Calls Try.prog 27 #[.agg t.cs, iv r, iv v] w fun e w' => e = .returned (.tuple #[.agg (t.put r v).cs, iv 0]) ∧ Below w.heap.size w w' := by
  have a1 := heap_alloc2_old w (Obj.cells t.cs 35) (Obj.cells #[iv 0, iv 0, iv 0, iv 0, iv 0, iv 0, iv 0, iv 0, iv 0, iv 0, iv 0, iv 0, iv 0, iv 0, iv 0, iv 0, iv 0, iv 0, iv 0, iv 0, iv 0, iv 0, iv 0, iv 0] 35)
  have a3 := al3c w (Obj.cells t.cs 35) (Obj.cells #[iv 0, iv 0, iv 0, iv 0, iv 0, iv 0, iv 0, iv 0, iv 0, iv 0, iv 0, iv 0, iv 0, iv 0, iv 0, iv 0, iv 0, iv 0, iv 0, iv 0, iv 0, iv 0, iv 0, iv 0] 35) (Obj.cells #[iv 0, iv 0, iv 0, iv 0, iv 0, iv 0, iv 0, iv 0, iv 0, iv 0, iv 0, iv 0, iv 0, iv 0, iv 0, iv 0, iv 0, iv 0, iv 0, iv 0, iv 0, iv 0, iv 0, iv 0] 71)
  have b3 := al3b w (Obj.cells t.cs 35) (Obj.cells #[iv 0, iv 0, iv 0, iv 0, iv 0, iv 0, iv 0, iv 0, iv 0, iv 0, iv 0, iv 0, iv 0, iv 0, iv 0, iv 0, iv 0, iv 0, iv 0, iv 0, iv 0, iv 0, iv 0, iv 0] 35) (Obj.cells #[iv 0, iv 0, iv 0, iv 0, iv 0, iv 0, iv 0, iv 0, iv 0, iv 0, iv 0, iv 0, iv 0, iv 0, iv 0, iv 0, iv 0, iv 0, iv 0, iv 0, iv 0, iv 0, iv 0, iv 0] 71)
  have C4 := setRow_heap _ _ _ t.cs _ _ a3
  have R4 := (setRow_other (((w.alloc (Obj.cells t.cs 35)).alloc (Obj.cells #[iv 0, iv 0, iv 0, iv 0, iv 0, iv 0, iv 0, iv 0, iv 0, iv 0, iv 0, iv 0, iv 0, iv 0, iv 0, iv 0, iv 0, iv 0, iv 0, iv 0, iv 0, iv 0, iv 0, iv 0] 35)).alloc (Obj.cells #[iv 0, iv 0, iv 0, iv 0, iv 0, iv 0, iv 0, iv 0, iv 0, iv 0, iv 0, iv 0, iv 0, iv 0, iv 0, iv 0, iv 0, iv 0, iv 0, iv 0, iv 0, iv 0, iv 0, iv 0] 71)) (w.heap.size + 1 + 1) (w.heap.size + 1) t.cs (by omega)).trans b3
  have B4 := below_setRow ((((Below.refl w.heap.size w).alloc (Nat.le_refl _) (Obj.cells t.cs 35)).alloc (by simp) (Obj.cells #[iv 0, iv 0, iv 0, iv 0, iv 0, iv 0, iv 0, iv 0, iv 0, iv 0, iv 0, iv 0, iv 0, iv 0, iv 0, iv 0, iv 0, iv 0, iv 0, iv 0, iv 0, iv 0, iv 0, iv 0] 35)).alloc (by simp; omega) (Obj.cells #[iv 0, iv 0, iv 0, iv 0, iv 0, iv 0, iv 0, iv 0, iv 0, iv 0, iv 0, iv 0, iv 0, iv 0, iv 0, iv 0, iv 0, iv 0, iv 0, iv 0, iv 0, iv 0, iv 0, iv 0] 71)) (g := w.heap.size + 1 + 1) (by omega) t.cs
  have a1H := Lib.hid a1
  have a3H := Lib.hid a3
  have C4H := Lib.hid C4
  have R4H := Lib.hid R4
  clear b3 a1 a3 C4 R4
  have hf : ∀ W, (Instr.field 71 (.agg (t.put r v).cs) 0).run Try.prog W = .ok (.agg (t.put r v).cs) W := fun _ => by kernel_rfl
  go_enter Try.func27, Try.ntmps27
  go_wp2_with (first
    | (refine wpList_load_row rfl 35 (.tmp 3) rfl (w.heap.size) rfl 35 _ (0, 0) _ a1H.out Try.underlying35 rfl (T.i35 _) ?_)
    | (refine wpBuild1 rfl 71 (.tmp 9) rfl (.agg t.cs) rfl t.cs (built71 t) ?_)
    | (refine wpList_store_row rfl 71 (.tmp 8) (.tmp 10) rfl (w.heap.size + 1 + 1) t.cs rfl rfl 71 _ a3H.out (T.i71 _) (T.sz T.zero _) (T.one _) ?_)
    | (refine wpList_load_row rfl 71 (.tmp 8) rfl (w.heap.size + 1 + 1) rfl 71 _ (0, 0) _ C4H.out Try.underlying71 rfl (T.i71 _) ?_)
    | (go_at_call 41; (with_reducible refine (ok_yes t ht _).mono ?_); rintro e w5 ⟨rfl, hb5⟩; have R5 := bkBelow R4H.out hb5; have C5 := bkBelow C4H.out hb5; have B5 := bdT B4 B4.size hb5; clear R4H B4 hb5 C4H)
    | (go_at_call 35; (first | (with_reducible refine (in_yes r 0 13 _ hr0 hr1).mono ?_) | (with_reducible refine (in_yes v 0 255 _ hv0 hv1).mono ?_)); rintro e w6 ⟨rfl, rfl⟩)
    | (refine wpList_load_row rfl 71 (.tmp 8) rfl (w.heap.size + 1 + 1) rfl 71 _ (0, 0) _ C5 Try.underlying71 rfl (T.i71 _) ?_)
    | (go_at_call 54; (with_reducible refine (written_any t r v hr0 hr1 _).mono ?_); rintro e w7 ⟨rfl, hb7⟩; have R7 := bkBelow R5 hb7; have B7 := bdT B5 B5.size hb7; clear R5 C5 hb7)
    | (refine wpList_store_row rfl 35 (.tmp 6) (.tmp 28) rfl (w.heap.size + 1) (t.put r v).cs rfl rfl 35 _ R7 (T.i35 _) (T.sz T.zero _) (T.one _) ?_))
  refine bodyPost_ret (res_ct rfl _ _ (w.heap.size + 1) 35 _ (0, 0) _ rfl (setRow_heap _ _ _ _ _ _ R7) Try.underlying35 rfl (T.i35 _)) rfl ⟨rfl, below_setRow B7 (by omega) _⟩
end Go.Proofs.Ytfpgidflaaefeaa.CH

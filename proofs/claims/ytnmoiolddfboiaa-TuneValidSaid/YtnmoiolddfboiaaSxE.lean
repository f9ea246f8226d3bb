/- The cursor of a sample: begun, moved, tapped, with the questions whether all is valid. -/
import Derived.Test.YtnmoiolddfboiaaSxD
import Derived.Test.YtnmoiolddfboiaaSxW
import Derived.Laws.StructEq
namespace Go.Proofs.Ytnmoiolddfboiaa.SX
open Go.RowKit Go.Proofs.YtnmoiolddfboiaaW.PrintLast Go.Proofs.Ytnmoiolddfboiaa.TX Go.Proofs.Ytnmoiolddfboiaa.Cu
set_option linter.unusedVariables false
set_option linter.unusedSimpArgs false
theorem vS_loops {s : S} {n : Nat} {xs : Nat → Int} (h : vS s n xs = true) : Loops s n := by
  obtain ⟨h1, h2, h3, h4, h5, h6, h7, h8⟩ := vS_yes h
  unfold LpOk at h7 h8
  unfold Loops LoopOk
  refine ⟨h3, ?_, ?_, ?_⟩ <;> omega
theorem vS_frames {s : S} {n : Nat} {xs : Nat → Int} (h : vS s n xs = true) : Frames s n xs := by
  obtain ⟨h1, h2, h3, h4, h5, h6, h7, h8⟩ := vS_yes h
  intro i hi
  have := h5 i hi
  unfold hb at this
  split at this <;> omega
/-- a cursor that may stand on so many frames, as the code asks -/
def okB (n : Nat) (c : Cur) : Bool := if c.done = true then decide (c.pos = 0 ∧ c.frac = 0 ∧ c.back = false) else decide (0 ≤ c.pos ∧ c.pos < n ∧ 0 ≤ c.frac ∧ c.frac < 65536)
theorem okB_iff {n : Nat} {c : Cur} : okB n c = true ↔ CurOk n c := by
  obtain ⟨ps, fr, bk, dn⟩ := c
  unfold okB CurOk
  cases dn
  · rw [if_neg (show ¬ (false = true) by decide), if_neg (show ¬ (false = true) by decide), decide_eq_true_iff]
  · rw [if_pos rfl, if_pos rfl, decide_eq_true_iff]
    unfold Cur.over
    simp only [Cur.mk.injEq, and_true]
set_option maxHeartbeats 4000000 in
set_option maxRecDepth 100000 in
theorem cursor_any (n : Nat) (c : Cur) (w : World) : Calls Try.prog 61 #[.agg (Cur.cs c), iv n] w fun e w' => e = .returned (.bool (okB n c)) ∧ Below w.heap.size w w' := by
  obtain ⟨ps, fr, bk, dn⟩ := c
  obtain ⟨r, hr⟩ : ∃ r, okB n ⟨ps, fr, bk, dn⟩ = r := ⟨_, rfl⟩
  rw [hr]
  unfold okB at hr
  simp only at hr
  cases dn
  · rw [if_neg (show ¬ (false = true) by decide)] at hr
    by_cases c1 : 0 ≤ ps
    · have d1 : decide (0 ≤ ps) = true := decide_eq_true c1
      by_cases c2 : ps < n
      · have d2 : decide (ps < (n : Int)) = true := decide_eq_true c2
        by_cases c3 : 0 ≤ fr
        · have d3 : decide (0 ≤ fr) = true := decide_eq_true c3
          by_cases c4 : fr < 65536
          · have d4 : decide (fr < 65536) = true := decide_eq_true c4
            obtain rfl : true = r := (decide_eq_true (by omega)).symm.trans hr
            (clear hr; unfold Cur.cs; go_enter Try.func61, Try.ntmps61; go_wp2; go_ret; exact ⟨rfl, (Below.refl _ _).alloc (Nat.le_refl _) _⟩)
          · have d4 : decide (fr < 65536) = false := decide_eq_false c4
            obtain rfl : false = r := (decide_eq_false (by omega)).symm.trans hr
            (clear hr; unfold Cur.cs; go_enter Try.func61, Try.ntmps61; go_wp2; go_ret; exact ⟨rfl, (Below.refl _ _).alloc (Nat.le_refl _) _⟩)
        · have d3 : decide (0 ≤ fr) = false := decide_eq_false c3
          obtain rfl : false = r := (decide_eq_false (by omega)).symm.trans hr
          (clear hr; unfold Cur.cs; go_enter Try.func61, Try.ntmps61; go_wp2; go_ret; exact ⟨rfl, (Below.refl _ _).alloc (Nat.le_refl _) _⟩)
      · have d2 : decide (ps < (n : Int)) = false := decide_eq_false c2
        obtain rfl : false = r := (decide_eq_false (by omega)).symm.trans hr
        (clear hr; unfold Cur.cs; go_enter Try.func61, Try.ntmps61; go_wp2; go_ret; exact ⟨rfl, (Below.refl _ _).alloc (Nat.le_refl _) _⟩)
    · have d1 : decide (0 ≤ ps) = false := decide_eq_false c1
      obtain rfl : false = r := (decide_eq_false (by omega)).symm.trans hr
      (clear hr; unfold Cur.cs; go_enter Try.func61, Try.ntmps61; go_wp2; go_ret; exact ⟨rfl, (Below.refl _ _).alloc (Nat.le_refl _) _⟩)
  · rw [if_pos rfl] at hr
    by_cases c1 : ps = 0
    · by_cases c2 : fr = 0
      · cases bk
        · obtain rfl : true = r := (decide_eq_true (by simp [c1, c2])).symm.trans hr
          subst c1 c2
          (clear hr; unfold Cur.cs; go_enter Try.func61, Try.ntmps61; go_wp2; go_ret; exact ⟨rfl, (Below.refl _ _).alloc (Nat.le_refl _) _⟩)
        · obtain rfl : false = r := (decide_eq_false (by simp)).symm.trans hr
          subst c1 c2
          (clear hr; unfold Cur.cs; go_enter Try.func61, Try.ntmps61; go_wp2; go_ret; exact ⟨rfl, (Below.refl _ _).alloc (Nat.le_refl _) _⟩)
      · obtain rfl : false = r := (decide_eq_false (by omega)).symm.trans hr
        have e2 : (fr == 0) = false := by simp [c2]
        (clear hr; unfold Cur.cs; go_enter Try.func61, Try.ntmps61; go_wp2; go_ret; exact ⟨rfl, (Below.refl _ _).alloc (Nat.le_refl _) _⟩)
    · obtain rfl : false = r := (decide_eq_false (by omega)).symm.trans hr
      have e1 : (ps == 0) = false := by simp [c1]
      (clear hr; unfold Cur.cs; go_enter Try.func61, Try.ntmps61; go_wp2; go_ret; exact ⟨rfl, (Below.refl _ _).alloc (Nat.le_refl _) _⟩)
/-! what both packages answer -/
def beginA (s : S) (n : Nat) (xs : Nat → Int) (off : Int) (back : Bool) : Cur := if vS s n xs = true then begM n off back else Cur.over
def appA (s : S) (n : Nat) (xs : Nat → Int) (held : Bool) : Int × Int × Int := if vS s n xs = true then rgS s held else (0, 0, 0)
def moveA (s : S) (n : Nat) (xs : Nat → Int) (c : Cur) (step : Int) (held : Bool) : Cur × Int := if vS s n xs = true ∧ okB n c = true then (if step < 0 ∨ 268435456 < step then (Cur.zero, 5) else (moveM s n c step held, 0)) else (Cur.zero, 1)
def tapA (s : S) (n : Nat) (xs : Nat → Int) (c : Cur) (k : Int) (held : Bool) : Int := if vS s n xs = true ∧ okB n c = true ∧ -8 ≤ k ∧ k ≤ 8 then tapM s n xs c k held else 0
set_option maxHeartbeats 4000000 in
set_option maxRecDepth 100000 in
theorem sbegin_any (s : S) (A : Option Addr) (n c0 b o : Nat) (xs : Nat → Int) (off : Int) (back : Bool) (ho : -9223372036854775808 ≤ off ∧ off ≤ 9223372036854775807) (hn : n ≤ 9223372036854775807) (hc0 : n ≤ c0) (w : World) (hA : DataAt w A n b o xs) : Calls Try.prog 17 #[.agg (s.cs A n c0), iv off, .bool back] w fun e w' => e = .returned (.agg (Cur.cs (beginA s n xs off back))) ∧ Below w.heap.size w w' := by
  have H0 := Lib.hid (show ((w.alloc (Obj.cells (s.cs A n c0) 24)).alloc (Obj.cells #[iv 0, iv 0, .bool false, .bool false] 26)).heap[w.heap.size + 1]? = some (.cells (Cur.cs Cur.zero) 26 (0, 0)) from heap_alloc2_new w _ _)
  cases hv : vS s n xs
  · rw [show beginA s n xs off back = Cur.over from if_neg (by rw [hv]; decide)]
    have B0 : Below w.heap.size w ((w.alloc (Obj.cells (s.cs A n c0) 24)).alloc (Obj.cells #[iv 0, iv 0, .bool false, .bool false] 26)) := ((Below.refl _ _).alloc (Nat.le_refl _) _).alloc (by simp) _
    have P0 := Lib.hid (show ((w.alloc (Obj.cells (s.cs A n c0) 24)).alloc (Obj.cells #[iv 0, iv 0, .bool false, .bool false] 26)).heap[w.heap.size]? = some (.cells (s.cs A n c0) 24 (0, 0)) from heap_alloc2_old w _ _)
    have D0 := Lib.hid (hA.later B0)
    have VC := Lib.hid (show ∀ (W : World), DataAt W A n b o xs → Calls Try.prog 15 #[.agg (s.cs A n c0)] W fun e w' => e = .returned (.bool false) ∧ Below W.heap.size W w' from fun W h => by have := valid_any s A n c0 b o xs hn hc0 W h; rwa [hv] at this)
    clear hA hv
    go_enter Try.func17, Try.ntmps17
    go_wp2_with (first
      | (refine wpList_load_row rfl 24 (.tmp 3) rfl (w.heap.size) rfl 24 _ (0, 0) _ P0.out Try.underlying24 rfl (S.i24 _ _ _ _) ?_)
      | (go_at_call 15; (with_reducible refine (VC.out _ D0.out).mono ?_); rintro e w1 ⟨rfl, hb1⟩; have P1 := Lib.hid (bkBelow P0.out hb1); have H1 := Lib.hid (bkBelow H0.out hb1); have D1 := Lib.hid (D0.out.later hb1); have B1 := bdT B0 B0.size hb1)
      | (refine wpList_store_row rfl 26 (.tmp 6) (.tmp 10) rfl (w.heap.size + 1) (Cur.cs Cur.over) rfl rfl 26 _ H1.out (Cur.i26 _) (Cur.sz _ _) (Cur.one _) ?_))
    refine bodyPost_ret (results_cell_row rfl _ _ (w.heap.size + 1) 26 _ (0, 0) _ rfl (setRow_heap _ _ _ _ _ _ H1.out) Try.underlying26 rfl (Cur.i26 _)) rfl ⟨rfl, below_setRow B1 (by omega) _⟩
  · rw [show beginA s n xs off back = begM n off back from if_pos hv]
    have B0 : Below w.heap.size w ((w.alloc (Obj.cells (s.cs A n c0) 24)).alloc (Obj.cells #[iv 0, iv 0, .bool false, .bool false] 26)) := ((Below.refl _ _).alloc (Nat.le_refl _) _).alloc (by simp) _
    have P0 := Lib.hid (show ((w.alloc (Obj.cells (s.cs A n c0) 24)).alloc (Obj.cells #[iv 0, iv 0, .bool false, .bool false] 26)).heap[w.heap.size]? = some (.cells (s.cs A n c0) 24 (0, 0)) from heap_alloc2_old w _ _)
    have D0 := Lib.hid (hA.later B0)
    have VC := Lib.hid (show ∀ (W : World), DataAt W A n b o xs → Calls Try.prog 15 #[.agg (s.cs A n c0)] W fun e w' => e = .returned (.bool true) ∧ Below W.heap.size W w' from fun W h => by have := valid_any s A n c0 b o xs hn hc0 W h; rwa [hv] at this)
    have BC := Lib.hid fun (W : World) (h : W.heap[w.heap.size]? = some (.cells (s.cs A n c0) 24 (0, 0))) => begin_any s A n c0 w.heap.size off back ho (by have := (vS_loops hv).1; omega) W h
    clear hA hv
    go_enter Try.func17, Try.ntmps17
    go_wp2_with (first
      | (refine wpList_load_row rfl 24 (.tmp 3) rfl (w.heap.size) rfl 24 _ (0, 0) _ P0.out Try.underlying24 rfl (S.i24 _ _ _ _) ?_)
      | (go_at_call 15; (with_reducible refine (VC.out _ D0.out).mono ?_); rintro e w1 ⟨rfl, hb1⟩; have P1 := Lib.hid (bkBelow P0.out hb1); have H1 := Lib.hid (bkBelow H0.out hb1); have D1 := Lib.hid (D0.out.later hb1); have B1 := bdT B0 B0.size hb1)
      | (go_at_call 60; (with_reducible refine (BC.out _ P1.out).mono ?_); rintro e w2 ⟨rfl, hb2⟩; have H2 := Lib.hid (bkBelow H1.out hb2); have B2 := bdT B1 B1.size hb2)
      | (refine wpList_store_row rfl 26 (.tmp 6) (.tmp 13) rfl (w.heap.size + 1) (Cur.cs (begM n off back)) rfl rfl 26 _ H2.out (Cur.i26 _) (Cur.sz _ _) (Cur.one _) ?_))
    refine bodyPost_ret (results_cell_row rfl _ _ (w.heap.size + 1) 26 _ (0, 0) _ rfl (setRow_heap _ _ _ _ _ _ H2.out) Try.underlying26 rfl (Cur.i26 _)) rfl ⟨rfl, below_setRow B2 (by omega) _⟩
set_option maxHeartbeats 4000000 in
set_option maxRecDepth 100000 in
theorem sapplies_any (s : S) (A : Option Addr) (n c0 b o : Nat) (xs : Nat → Int) (held : Bool) (hn : n ≤ 9223372036854775807) (hc0 : n ≤ c0) (w : World) (hA : DataAt w A n b o xs) : Calls Try.prog 20 #[.agg (s.cs A n c0), .bool held] w fun e w' => e = .returned (.tuple #[iv (appA s n xs held).1, iv (appA s n xs held).2.1, iv (appA s n xs held).2.2]) ∧ Below w.heap.size w w' := by
  cases hv : vS s n xs
  · rw [show appA s n xs held = (0, 0, 0) from if_neg (by rw [hv]; decide)]
    have B0 : Below w.heap.size w (w.alloc (Obj.cells (s.cs A n c0) 24)) := (Below.refl _ _).alloc (Nat.le_refl _) _
    have P0 := Lib.hid (show (w.alloc (Obj.cells (s.cs A n c0) 24)).heap[w.heap.size]? = some (.cells (s.cs A n c0) 24 (0, 0)) from heap_alloc_new w _)
    have D0 := Lib.hid (hA.later B0)
    have VC := Lib.hid (show ∀ (W : World), DataAt W A n b o xs → Calls Try.prog 15 #[.agg (s.cs A n c0)] W fun e w' => e = .returned (.bool false) ∧ Below W.heap.size W w' from fun W h => by have := valid_any s A n c0 b o xs hn hc0 W h; rwa [hv] at this)
    clear hA hv
    go_enter Try.func20, Try.ntmps20
    go_wp2_with (first
      | (refine wpList_load_row rfl 24 (.tmp 2) rfl (w.heap.size) rfl 24 _ (0, 0) _ P0.out Try.underlying24 rfl (S.i24 _ _ _ _) ?_)
      | (go_at_call 15; (with_reducible refine (VC.out _ D0.out).mono ?_); rintro e w1 ⟨rfl, hb1⟩; have P1 := Lib.hid (bkBelow P0.out hb1); have D1 := Lib.hid (D0.out.later hb1); have B1 := bdT B0 B0.size hb1))
    go_ret3
    exact ⟨rfl, B1⟩
  · rw [show appA s n xs held = rgS s held from if_pos hv]
    have B0 : Below w.heap.size w (w.alloc (Obj.cells (s.cs A n c0) 24)) := (Below.refl _ _).alloc (Nat.le_refl _) _
    have P0 := Lib.hid (show (w.alloc (Obj.cells (s.cs A n c0) 24)).heap[w.heap.size]? = some (.cells (s.cs A n c0) 24 (0, 0)) from heap_alloc_new w _)
    have D0 := Lib.hid (hA.later B0)
    have VC := Lib.hid (show ∀ (W : World), DataAt W A n b o xs → Calls Try.prog 15 #[.agg (s.cs A n c0)] W fun e w' => e = .returned (.bool true) ∧ Below W.heap.size W w' from fun W h => by have := valid_any s A n c0 b o xs hn hc0 W h; rwa [hv] at this)
    have AC := Lib.hid fun (W : World) (h : W.heap[w.heap.size]? = some (.cells (s.cs A n c0) 24 (0, 0))) => applies_any s A n c0 w.heap.size held W h
    clear hA hv
    go_enter Try.func20, Try.ntmps20
    go_wp2_with (first
      | (refine wpList_load_row rfl 24 (.tmp 2) rfl (w.heap.size) rfl 24 _ (0, 0) _ P0.out Try.underlying24 rfl (S.i24 _ _ _ _) ?_)
      | (go_at_call 15; (with_reducible refine (VC.out _ D0.out).mono ?_); rintro e w1 ⟨rfl, hb1⟩; have P1 := Lib.hid (bkBelow P0.out hb1); have D1 := Lib.hid (D0.out.later hb1); have B1 := bdT B0 B0.size hb1)
      | (go_at_call 65; (with_reducible refine (AC.out _ P1.out).mono ?_); rintro e w2 ⟨rfl, m2, rfl⟩))
    go_ret3
    exact ⟨rfl, bdN B1 _⟩
theorem res_cc {fn : Func} {p q : Tmp} (h : fn.results = #[.cell p 26, .tmp q]) (tmps : Array Value) (w : World) (g : Nat) (c : Cur)
    (hp : tmps.getD p undef = .pointer (some ⟨g, 0, none⟩)) (hg : w.heap[g]? = some (.cells (Cur.cs c) 26 (0, 0))) : (results fn tmps).run Try.prog w = .ok (.tuple #[.agg (Cur.cs c), tmps.getD q undef]) w := by
  have hp' : tmps[p]?.getD undef = .pointer (some ⟨g, 0, none⟩) := by simpa using hp
  simp [results, h, hp', asAddr, run_loadVar_row w g 26 26 (Cur.cs c) (0, 0) _ hg Try.underlying26 rfl (Cur.i26 _)]
theorem al3A (w : World) (A B C : Obj) : (((w.alloc A).alloc B).alloc C).heap[w.heap.size]? = some A := bkAlloc (heap_alloc2_old w A B) C
theorem al3B (w : World) (A B C : Obj) : (((w.alloc A).alloc B).alloc C).heap[w.heap.size + 1]? = some B := bkAlloc (heap_alloc2_new w A B) C
theorem al3C (w : World) (A B C : Obj) : (((w.alloc A).alloc B).alloc C).heap[w.heap.size + 1 + 1]? = some C := by
  have := heap_alloc_new ((w.alloc A).alloc B) C
  simpa only [World.size_alloc] using this
set_option maxHeartbeats 4000000 in
set_option maxRecDepth 100000 in
theorem smove_bad (s : S) (A : Option Addr) (n c0 b o : Nat) (xs : Nat → Int) (c : Cur) (step : Int) (held : Bool) (hv : vS s n xs = false) (hn : n ≤ 9223372036854775807) (hc0 : n ≤ c0) (w : World) (hA : DataAt w A n b o xs) : Calls Try.prog 18 #[.agg (s.cs A n c0), .agg (Cur.cs c), iv step, .bool held] w fun e w' => e = .returned (.tuple #[.agg (Cur.cs Cur.zero), iv 1]) ∧ Below w.heap.size w w' := by
  have H0 := Lib.hid (show (((w.alloc (Obj.cells (s.cs A n c0) 24)).alloc (Obj.cells (Cur.cs c) 26)).alloc (Obj.cells #[iv 0, iv 0, .bool false, .bool false] 26)).heap[w.heap.size + 1 + 1]? = some (.cells (Cur.cs Cur.zero) 26 (0, 0)) from al3C w _ _ _)
  have C0 := Lib.hid (show (((w.alloc (Obj.cells (s.cs A n c0) 24)).alloc (Obj.cells (Cur.cs c) 26)).alloc (Obj.cells #[iv 0, iv 0, .bool false, .bool false] 26)).heap[w.heap.size + 1]? = some (.cells (Cur.cs c) 26 (0, 0)) from al3B w _ _ _)
  have B0 : Below w.heap.size w (((w.alloc (Obj.cells (s.cs A n c0) 24)).alloc (Obj.cells (Cur.cs c) 26)).alloc (Obj.cells #[iv 0, iv 0, .bool false, .bool false] 26)) := (((Below.refl _ _).alloc (Nat.le_refl _) _).alloc (by simp) _).alloc (by simp; omega) _
  have P0 := Lib.hid (show (((w.alloc (Obj.cells (s.cs A n c0) 24)).alloc (Obj.cells (Cur.cs c) 26)).alloc (Obj.cells #[iv 0, iv 0, .bool false, .bool false] 26)).heap[w.heap.size]? = some (.cells (s.cs A n c0) 24 (0, 0)) from al3A w _ _ _)
  have D0 := Lib.hid (hA.later B0)
  have VC := Lib.hid (show ∀ (W : World), DataAt W A n b o xs → Calls Try.prog 15 #[.agg (s.cs A n c0)] W fun e w' => e = .returned (.bool false) ∧ Below W.heap.size W w' from fun W h => by have := valid_any s A n c0 b o xs hn hc0 W h; rwa [hv] at this)
  clear hA hv
  go_enter Try.func18, Try.ntmps18
  go_wp2_with (first
    | (refine wpList_load_row rfl 24 (.tmp 4) rfl (w.heap.size) rfl 24 _ (0, 0) _ P0.out Try.underlying24 rfl (S.i24 _ _ _ _) ?_)
    | (go_at_call 15; (with_reducible refine (VC.out _ D0.out).mono ?_); rintro e w1 ⟨rfl, hb1⟩; have P1 := Lib.hid (bkBelow P0.out hb1); have H1 := Lib.hid (bkBelow H0.out hb1); have C1 := Lib.hid (bkBelow C0.out hb1); have p1 := (bkCell P1.out 1).trans (show _ = some (.slice A n c0) from rfl); have D1 := Lib.hid (D0.out.later hb1); have B1 := bdT B0 B0.size hb1)
    | (refine wpBuild0 rfl 26 rfl (Cur.cs Cur.zero) built26 ?_)
    | (refine wpList_store_row rfl 26 (.tmp 8) (.tmp 21) rfl (w.heap.size + 1 + 1) (Cur.cs Cur.zero) rfl rfl 26 _ H1.out (Cur.i26 _) (Cur.sz _ _) (Cur.one _) ?_))
  refine bodyPost_ret (res_cc rfl _ _ (w.heap.size + 1 + 1) _ rfl (setRow_heap _ _ _ _ _ _ H1.out)) rfl ⟨rfl, below_setRow B1 (by omega) _⟩
set_option maxHeartbeats 4000000 in
set_option maxRecDepth 100000 in
theorem smove_off (s : S) (A : Option Addr) (n c0 b o : Nat) (xs : Nat → Int) (c : Cur) (step : Int) (held : Bool) (hv : vS s n xs = true) (hk : okB n c = false) (hn : n ≤ 9223372036854775807) (hc0 : n ≤ c0) (w : World) (hA : DataAt w A n b o xs) : Calls Try.prog 18 #[.agg (s.cs A n c0), .agg (Cur.cs c), iv step, .bool held] w fun e w' => e = .returned (.tuple #[.agg (Cur.cs Cur.zero), iv 1]) ∧ Below w.heap.size w w' := by
  have H0 := Lib.hid (show (((w.alloc (Obj.cells (s.cs A n c0) 24)).alloc (Obj.cells (Cur.cs c) 26)).alloc (Obj.cells #[iv 0, iv 0, .bool false, .bool false] 26)).heap[w.heap.size + 1 + 1]? = some (.cells (Cur.cs Cur.zero) 26 (0, 0)) from al3C w _ _ _)
  have C0 := Lib.hid (show (((w.alloc (Obj.cells (s.cs A n c0) 24)).alloc (Obj.cells (Cur.cs c) 26)).alloc (Obj.cells #[iv 0, iv 0, .bool false, .bool false] 26)).heap[w.heap.size + 1]? = some (.cells (Cur.cs c) 26 (0, 0)) from al3B w _ _ _)
  have B0 : Below w.heap.size w (((w.alloc (Obj.cells (s.cs A n c0) 24)).alloc (Obj.cells (Cur.cs c) 26)).alloc (Obj.cells #[iv 0, iv 0, .bool false, .bool false] 26)) := (((Below.refl _ _).alloc (Nat.le_refl _) _).alloc (by simp) _).alloc (by simp; omega) _
  have P0 := Lib.hid (show (((w.alloc (Obj.cells (s.cs A n c0) 24)).alloc (Obj.cells (Cur.cs c) 26)).alloc (Obj.cells #[iv 0, iv 0, .bool false, .bool false] 26)).heap[w.heap.size]? = some (.cells (s.cs A n c0) 24 (0, 0)) from al3A w _ _ _)
  have D0 := Lib.hid (hA.later B0)
  have VC := Lib.hid (show ∀ (W : World), DataAt W A n b o xs → Calls Try.prog 15 #[.agg (s.cs A n c0)] W fun e w' => e = .returned (.bool true) ∧ Below W.heap.size W w' from fun W h => by have := valid_any s A n c0 b o xs hn hc0 W h; rwa [hv] at this)
  have CC := Lib.hid (show ∀ (W : World), Calls Try.prog 61 #[.agg (Cur.cs c), iv n] W fun e w' => e = .returned (.bool false) ∧ Below W.heap.size W w' from fun W => by have := cursor_any n c W; rwa [hk] at this)
  clear hA hv hk
  go_enter Try.func18, Try.ntmps18
  go_wp2_with (first
    | (refine wpList_load_row rfl 24 (.tmp 4) rfl (w.heap.size) rfl 24 _ (0, 0) _ P0.out Try.underlying24 rfl (S.i24 _ _ _ _) ?_)
    | (go_at_call 15; (with_reducible refine (VC.out _ D0.out).mono ?_); rintro e w1 ⟨rfl, hb1⟩; have P1 := Lib.hid (bkBelow P0.out hb1); have H1 := Lib.hid (bkBelow H0.out hb1); have C1 := Lib.hid (bkBelow C0.out hb1); have p1 := (bkCell P1.out 1).trans (show _ = some (.slice A n c0) from rfl); have D1 := Lib.hid (D0.out.later hb1); have B1 := bdT B0 B0.size hb1)
    | (refine gdOn (by rfl) ?_; refine wpList_load_row rfl 26 (.tmp 5) rfl (w.heap.size + 1) rfl 26 _ (0, 0) _ C1.out Try.underlying26 rfl (Cur.i26 _) ?_)
    | (go_at_call 61; (with_reducible refine (CC.out _).mono ?_); rintro e w2 ⟨rfl, hb2⟩; have P2 := Lib.hid (bkBelow P1.out hb2); have C2 := Lib.hid (bkBelow C1.out hb2); have H2 := Lib.hid (bkBelow H1.out hb2); have D2 := Lib.hid (D1.out.later hb2); have B2 := bdT B1 B1.size hb2)
    | (refine wpBuild0 rfl 26 rfl (Cur.cs Cur.zero) built26 ?_)
    | (refine wpList_store_row rfl 26 (.tmp 8) (.tmp 21) rfl (w.heap.size + 1 + 1) (Cur.cs Cur.zero) rfl rfl 26 _ H2.out (Cur.i26 _) (Cur.sz _ _) (Cur.one _) ?_))
  refine bodyPost_ret (res_cc rfl _ _ (w.heap.size + 1 + 1) _ rfl (setRow_heap _ _ _ _ _ _ H2.out)) rfl ⟨rfl, below_setRow B2 (by omega) _⟩
set_option maxHeartbeats 4000000 in
set_option maxRecDepth 100000 in
theorem smove_rnga (s : S) (A : Option Addr) (n c0 b o : Nat) (xs : Nat → Int) (c : Cur) (step : Int) (held : Bool) (hv : vS s n xs = true) (hk : okB n c = true) (hs : step < 0) (hn : n ≤ 9223372036854775807) (hc0 : n ≤ c0) (w : World) (hA : DataAt w A n b o xs) : Calls Try.prog 18 #[.agg (s.cs A n c0), .agg (Cur.cs c), iv step, .bool held] w fun e w' => e = .returned (.tuple #[.agg (Cur.cs Cur.zero), iv 5]) ∧ Below w.heap.size w w' := by
  have H0 := Lib.hid (show (((w.alloc (Obj.cells (s.cs A n c0) 24)).alloc (Obj.cells (Cur.cs c) 26)).alloc (Obj.cells #[iv 0, iv 0, .bool false, .bool false] 26)).heap[w.heap.size + 1 + 1]? = some (.cells (Cur.cs Cur.zero) 26 (0, 0)) from al3C w _ _ _)
  have C0 := Lib.hid (show (((w.alloc (Obj.cells (s.cs A n c0) 24)).alloc (Obj.cells (Cur.cs c) 26)).alloc (Obj.cells #[iv 0, iv 0, .bool false, .bool false] 26)).heap[w.heap.size + 1]? = some (.cells (Cur.cs c) 26 (0, 0)) from al3B w _ _ _)
  have B0 : Below w.heap.size w (((w.alloc (Obj.cells (s.cs A n c0) 24)).alloc (Obj.cells (Cur.cs c) 26)).alloc (Obj.cells #[iv 0, iv 0, .bool false, .bool false] 26)) := (((Below.refl _ _).alloc (Nat.le_refl _) _).alloc (by simp) _).alloc (by simp; omega) _
  have P0 := Lib.hid (show (((w.alloc (Obj.cells (s.cs A n c0) 24)).alloc (Obj.cells (Cur.cs c) 26)).alloc (Obj.cells #[iv 0, iv 0, .bool false, .bool false] 26)).heap[w.heap.size]? = some (.cells (s.cs A n c0) 24 (0, 0)) from al3A w _ _ _)
  have D0 := Lib.hid (hA.later B0)
  have VC := Lib.hid (show ∀ (W : World), DataAt W A n b o xs → Calls Try.prog 15 #[.agg (s.cs A n c0)] W fun e w' => e = .returned (.bool true) ∧ Below W.heap.size W w' from fun W h => by have := valid_any s A n c0 b o xs hn hc0 W h; rwa [hv] at this)
  have CC := Lib.hid (show ∀ (W : World), Calls Try.prog 61 #[.agg (Cur.cs c), iv n] W fun e w' => e = .returned (.bool true) ∧ Below W.heap.size W w' from fun W => by have := cursor_any n c W; rwa [hk] at this)
  have d0 : decide (step < 0) = true := decide_eq_true hs
  clear hA hv hk
  go_enter Try.func18, Try.ntmps18
  go_wp2_with (first
    | (refine wpList_load_row rfl 24 (.tmp 4) rfl (w.heap.size) rfl 24 _ (0, 0) _ P0.out Try.underlying24 rfl (S.i24 _ _ _ _) ?_)
    | (go_at_call 15; (with_reducible refine (VC.out _ D0.out).mono ?_); rintro e w1 ⟨rfl, hb1⟩; have P1 := Lib.hid (bkBelow P0.out hb1); have H1 := Lib.hid (bkBelow H0.out hb1); have C1 := Lib.hid (bkBelow C0.out hb1); have p1 := (bkCell P1.out 1).trans (show _ = some (.slice A n c0) from rfl); have D1 := Lib.hid (D0.out.later hb1); have B1 := bdT B0 B0.size hb1)
    | (refine gdOn (by rfl) ?_; refine wpList_load_row rfl 26 (.tmp 5) rfl (w.heap.size + 1) rfl 26 _ (0, 0) _ C1.out Try.underlying26 rfl (Cur.i26 _) ?_)
    | (go_at_call 61; (with_reducible refine (CC.out _).mono ?_); rintro e w2 ⟨rfl, hb2⟩; have P2 := Lib.hid (bkBelow P1.out hb2); have C2 := Lib.hid (bkBelow C1.out hb2); have H2 := Lib.hid (bkBelow H1.out hb2); have D2 := Lib.hid (D1.out.later hb2); have B2 := bdT B1 B1.size hb2)
    | (refine wpBuild0 rfl 26 rfl (Cur.cs Cur.zero) built26 ?_)
    | (refine wpList_store_row rfl 26 (.tmp 8) (.tmp 28) rfl (w.heap.size + 1 + 1) (Cur.cs Cur.zero) rfl rfl 26 _ H2.out (Cur.i26 _) (Cur.sz _ _) (Cur.one _) ?_))
  refine bodyPost_ret (res_cc rfl _ _ (w.heap.size + 1 + 1) _ rfl (setRow_heap _ _ _ _ _ _ H2.out)) rfl ⟨rfl, below_setRow B2 (by omega) _⟩
set_option maxHeartbeats 4000000 in
set_option maxRecDepth 100000 in
theorem smove_rngb (s : S) (A : Option Addr) (n c0 b o : Nat) (xs : Nat → Int) (c : Cur) (step : Int) (held : Bool) (hv : vS s n xs = true) (hk : okB n c = true) (hs : 0 ≤ step) (hs1 : 268435456 < step) (hn : n ≤ 9223372036854775807) (hc0 : n ≤ c0) (w : World) (hA : DataAt w A n b o xs) : Calls Try.prog 18 #[.agg (s.cs A n c0), .agg (Cur.cs c), iv step, .bool held] w fun e w' => e = .returned (.tuple #[.agg (Cur.cs Cur.zero), iv 5]) ∧ Below w.heap.size w w' := by
  have H0 := Lib.hid (show (((w.alloc (Obj.cells (s.cs A n c0) 24)).alloc (Obj.cells (Cur.cs c) 26)).alloc (Obj.cells #[iv 0, iv 0, .bool false, .bool false] 26)).heap[w.heap.size + 1 + 1]? = some (.cells (Cur.cs Cur.zero) 26 (0, 0)) from al3C w _ _ _)
  have C0 := Lib.hid (show (((w.alloc (Obj.cells (s.cs A n c0) 24)).alloc (Obj.cells (Cur.cs c) 26)).alloc (Obj.cells #[iv 0, iv 0, .bool false, .bool false] 26)).heap[w.heap.size + 1]? = some (.cells (Cur.cs c) 26 (0, 0)) from al3B w _ _ _)
  have B0 : Below w.heap.size w (((w.alloc (Obj.cells (s.cs A n c0) 24)).alloc (Obj.cells (Cur.cs c) 26)).alloc (Obj.cells #[iv 0, iv 0, .bool false, .bool false] 26)) := (((Below.refl _ _).alloc (Nat.le_refl _) _).alloc (by simp) _).alloc (by simp; omega) _
  have P0 := Lib.hid (show (((w.alloc (Obj.cells (s.cs A n c0) 24)).alloc (Obj.cells (Cur.cs c) 26)).alloc (Obj.cells #[iv 0, iv 0, .bool false, .bool false] 26)).heap[w.heap.size]? = some (.cells (s.cs A n c0) 24 (0, 0)) from al3A w _ _ _)
  have D0 := Lib.hid (hA.later B0)
  have VC := Lib.hid (show ∀ (W : World), DataAt W A n b o xs → Calls Try.prog 15 #[.agg (s.cs A n c0)] W fun e w' => e = .returned (.bool true) ∧ Below W.heap.size W w' from fun W h => by have := valid_any s A n c0 b o xs hn hc0 W h; rwa [hv] at this)
  have CC := Lib.hid (show ∀ (W : World), Calls Try.prog 61 #[.agg (Cur.cs c), iv n] W fun e w' => e = .returned (.bool true) ∧ Below W.heap.size W w' from fun W => by have := cursor_any n c W; rwa [hk] at this)
  have d0 : decide (step < 0) = false := decide_eq_false (by omega)
  have d1 : decide (268435456 < step) = true := decide_eq_true hs1
  clear hA hv hk
  go_enter Try.func18, Try.ntmps18
  go_wp2_with (first
    | (refine wpList_load_row rfl 24 (.tmp 4) rfl (w.heap.size) rfl 24 _ (0, 0) _ P0.out Try.underlying24 rfl (S.i24 _ _ _ _) ?_)
    | (go_at_call 15; (with_reducible refine (VC.out _ D0.out).mono ?_); rintro e w1 ⟨rfl, hb1⟩; have P1 := Lib.hid (bkBelow P0.out hb1); have H1 := Lib.hid (bkBelow H0.out hb1); have C1 := Lib.hid (bkBelow C0.out hb1); have p1 := (bkCell P1.out 1).trans (show _ = some (.slice A n c0) from rfl); have D1 := Lib.hid (D0.out.later hb1); have B1 := bdT B0 B0.size hb1)
    | (refine gdOn (by rfl) ?_; refine wpList_load_row rfl 26 (.tmp 5) rfl (w.heap.size + 1) rfl 26 _ (0, 0) _ C1.out Try.underlying26 rfl (Cur.i26 _) ?_)
    | (go_at_call 61; (with_reducible refine (CC.out _).mono ?_); rintro e w2 ⟨rfl, hb2⟩; have P2 := Lib.hid (bkBelow P1.out hb2); have C2 := Lib.hid (bkBelow C1.out hb2); have H2 := Lib.hid (bkBelow H1.out hb2); have D2 := Lib.hid (D1.out.later hb2); have B2 := bdT B1 B1.size hb2)
    | (refine wpBuild0 rfl 26 rfl (Cur.cs Cur.zero) built26 ?_)
    | (refine wpList_store_row rfl 26 (.tmp 8) (.tmp 28) rfl (w.heap.size + 1 + 1) (Cur.cs Cur.zero) rfl rfl 26 _ H2.out (Cur.i26 _) (Cur.sz _ _) (Cur.one _) ?_))
  refine bodyPost_ret (res_cc rfl _ _ (w.heap.size + 1 + 1) _ rfl (setRow_heap _ _ _ _ _ _ H2.out)) rfl ⟨rfl, below_setRow B2 (by omega) _⟩
set_option maxHeartbeats 4000000 in
set_option maxRecDepth 100000 in
theorem smove_ok (s : S) (A : Option Addr) (n c0 b o : Nat) (xs : Nat → Int) (c : Cur) (step : Int) (held : Bool) (hv : vS s n xs = true) (hk : okB n c = true) (hs : 0 ≤ step) (hs1 : step ≤ 268435456) (hn : n ≤ 9223372036854775807) (hc0 : n ≤ c0) (w : World) (hA : DataAt w A n b o xs) : Calls Try.prog 18 #[.agg (s.cs A n c0), .agg (Cur.cs c), iv step, .bool held] w fun e w' => e = .returned (.tuple #[.agg (Cur.cs (moveM s n c step held)), iv 0]) ∧ Below w.heap.size w w' := by
  have H0 := Lib.hid (show (((w.alloc (Obj.cells (s.cs A n c0) 24)).alloc (Obj.cells (Cur.cs c) 26)).alloc (Obj.cells #[iv 0, iv 0, .bool false, .bool false] 26)).heap[w.heap.size + 1 + 1]? = some (.cells (Cur.cs Cur.zero) 26 (0, 0)) from al3C w _ _ _)
  have C0 := Lib.hid (show (((w.alloc (Obj.cells (s.cs A n c0) 24)).alloc (Obj.cells (Cur.cs c) 26)).alloc (Obj.cells #[iv 0, iv 0, .bool false, .bool false] 26)).heap[w.heap.size + 1]? = some (.cells (Cur.cs c) 26 (0, 0)) from al3B w _ _ _)
  have B0 : Below w.heap.size w (((w.alloc (Obj.cells (s.cs A n c0) 24)).alloc (Obj.cells (Cur.cs c) 26)).alloc (Obj.cells #[iv 0, iv 0, .bool false, .bool false] 26)) := (((Below.refl _ _).alloc (Nat.le_refl _) _).alloc (by simp) _).alloc (by simp; omega) _
  have P0 := Lib.hid (show (((w.alloc (Obj.cells (s.cs A n c0) 24)).alloc (Obj.cells (Cur.cs c) 26)).alloc (Obj.cells #[iv 0, iv 0, .bool false, .bool false] 26)).heap[w.heap.size]? = some (.cells (s.cs A n c0) 24 (0, 0)) from al3A w _ _ _)
  have D0 := Lib.hid (hA.later B0)
  have VC := Lib.hid (show ∀ (W : World), DataAt W A n b o xs → Calls Try.prog 15 #[.agg (s.cs A n c0)] W fun e w' => e = .returned (.bool true) ∧ Below W.heap.size W w' from fun W h => by have := valid_any s A n c0 b o xs hn hc0 W h; rwa [hv] at this)
  have CC := Lib.hid (show ∀ (W : World), Calls Try.prog 61 #[.agg (Cur.cs c), iv n] W fun e w' => e = .returned (.bool true) ∧ Below W.heap.size W w' from fun W => by have := cursor_any n c W; rwa [hk] at this)
  have d0 : decide (step < 0) = false := decide_eq_false (by omega)
  have d1 : decide (268435456 < step) = false := decide_eq_false (by omega)
  have MC := Lib.hid fun (W : World) (h : W.heap[w.heap.size]? = some (.cells (s.cs A n c0) 24 (0, 0))) => move_any s A n c0 w.heap.size c step held (vS_loops hv) (okB_iff.1 hk) hs hs1 W h
  clear hA hv hk
  go_enter Try.func18, Try.ntmps18
  go_wp2_with (first
    | (refine wpList_load_row rfl 24 (.tmp 4) rfl (w.heap.size) rfl 24 _ (0, 0) _ P0.out Try.underlying24 rfl (S.i24 _ _ _ _) ?_)
    | (go_at_call 15; (with_reducible refine (VC.out _ D0.out).mono ?_); rintro e w1 ⟨rfl, hb1⟩; have P1 := Lib.hid (bkBelow P0.out hb1); have H1 := Lib.hid (bkBelow H0.out hb1); have C1 := Lib.hid (bkBelow C0.out hb1); have p1 := (bkCell P1.out 1).trans (show _ = some (.slice A n c0) from rfl); have D1 := Lib.hid (D0.out.later hb1); have B1 := bdT B0 B0.size hb1)
    | (refine gdOn (by rfl) ?_; refine wpList_load_row rfl 26 (.tmp 5) rfl (w.heap.size + 1) rfl 26 _ (0, 0) _ C1.out Try.underlying26 rfl (Cur.i26 _) ?_)
    | (go_at_call 61; (with_reducible refine (CC.out _).mono ?_); rintro e w2 ⟨rfl, hb2⟩; have P2 := Lib.hid (bkBelow P1.out hb2); have C2 := Lib.hid (bkBelow C1.out hb2); have H2 := Lib.hid (bkBelow H1.out hb2); have D2 := Lib.hid (D1.out.later hb2); have B2 := bdT B1 B1.size hb2)
    | (refine wpList_load_row rfl 26 (.tmp 5) rfl (w.heap.size + 1) rfl 26 _ (0, 0) _ C2.out Try.underlying26 rfl (Cur.i26 _) ?_)
    | (go_at_call 62; (with_reducible refine (MC.out _ P2.out).mono ?_); rintro e w3 ⟨rfl, hb3⟩; have H3 := Lib.hid (bkBelow H2.out hb3); have B3 := bdT B2 B2.size hb3)
    | (refine wpList_store_row rfl 26 (.tmp 8) (.tmp 32) rfl (w.heap.size + 1 + 1) (Cur.cs (moveM s n c step held)) rfl rfl 26 _ H3.out (Cur.i26 _) (Cur.sz _ _) (Cur.one _) ?_))
  refine bodyPost_ret (res_cc rfl _ _ (w.heap.size + 1 + 1) _ rfl (setRow_heap _ _ _ _ _ _ H3.out)) rfl ⟨rfl, below_setRow B3 (by omega) _⟩
theorem smove_any (s : S) (A : Option Addr) (n c0 b o : Nat) (xs : Nat → Int) (c : Cur) (step : Int) (held : Bool) (hn : n ≤ 9223372036854775807) (hc0 : n ≤ c0) (w : World) (hA : DataAt w A n b o xs) : Calls Try.prog 18 #[.agg (s.cs A n c0), .agg (Cur.cs c), iv step, .bool held] w fun e w' => e = .returned (.tuple #[.agg (Cur.cs (moveA s n xs c step held).1), iv (moveA s n xs c step held).2]) ∧ Below w.heap.size w w' := by
  cases hv : vS s n xs
  · rw [show moveA s n xs c step held = (Cur.zero, 1) from if_neg (by rw [hv]; simp)]
    exact smove_bad s A n c0 b o xs c step held hv hn hc0 w hA
  · cases hk : okB n c
    · rw [show moveA s n xs c step held = (Cur.zero, 1) from if_neg (by rw [hk]; simp)]
      exact smove_off s A n c0 b o xs c step held hv hk hn hc0 w hA
    · have e : moveA s n xs c step held = if step < 0 ∨ 268435456 < step then (Cur.zero, 5) else (moveM s n c step held, 0) := if_pos ⟨hv, hk⟩
      rw [e]
      by_cases h0 : step < 0
      · rw [if_pos (.inl h0)]
        exact smove_rnga s A n c0 b o xs c step held hv hk h0 hn hc0 w hA
      · by_cases h1 : 268435456 < step
        · rw [if_pos (.inr h1)]
          exact smove_rngb s A n c0 b o xs c step held hv hk (by omega) h1 hn hc0 w hA
        · rw [if_neg (by omega)]
          exact smove_ok s A n c0 b o xs c step held hv hk (by omega) (by omega) hn hc0 w hA
set_option maxHeartbeats 4000000 in
set_option maxRecDepth 100000 in
theorem stap_bad (s : S) (A : Option Addr) (n c0 b o : Nat) (xs : Nat → Int) (c : Cur) (k : Int) (held : Bool) (hv : vS s n xs = false) (hn : n ≤ 9223372036854775807) (hc0 : n ≤ c0) (w : World) (hA : DataAt w A n b o xs) : Calls Try.prog 22 #[.agg (s.cs A n c0), .agg (Cur.cs c), iv k, .bool held] w fun e w' => e = .returned (iv 0) ∧ Below w.heap.size w w' := by
  have C0 := Lib.hid (show ((w.alloc (Obj.cells (s.cs A n c0) 24)).alloc (Obj.cells (Cur.cs c) 26)).heap[w.heap.size + 1]? = some (.cells (Cur.cs c) 26 (0, 0)) from heap_alloc2_new w _ _)
  have B0 : Below w.heap.size w ((w.alloc (Obj.cells (s.cs A n c0) 24)).alloc (Obj.cells (Cur.cs c) 26)) := ((Below.refl _ _).alloc (Nat.le_refl _) _).alloc (by simp) _
  have P0 := Lib.hid (show ((w.alloc (Obj.cells (s.cs A n c0) 24)).alloc (Obj.cells (Cur.cs c) 26)).heap[w.heap.size]? = some (.cells (s.cs A n c0) 24 (0, 0)) from heap_alloc2_old w _ _)
  have D0 := Lib.hid (hA.later B0)
  have VC := Lib.hid (show ∀ (W : World), DataAt W A n b o xs → Calls Try.prog 15 #[.agg (s.cs A n c0)] W fun e w' => e = .returned (.bool false) ∧ Below W.heap.size W w' from fun W h => by have := valid_any s A n c0 b o xs hn hc0 W h; rwa [hv] at this)
  clear hA hv
  go_enter Try.func22, Try.ntmps22
  go_wp2_with (first
    | (refine wpList_load_row rfl 24 (.tmp 4) rfl (w.heap.size) rfl 24 _ (0, 0) _ P0.out Try.underlying24 rfl (S.i24 _ _ _ _) ?_)
    | (go_at_call 15; (with_reducible refine (VC.out _ D0.out).mono ?_); rintro e w1 ⟨rfl, hb1⟩; have P1 := Lib.hid (bkBelow P0.out hb1); have C1 := Lib.hid (bkBelow C0.out hb1); have p1 := (bkCell P1.out 1).trans (show _ = some (.slice A n c0) from rfl); have D1 := Lib.hid (D0.out.later hb1); have B1 := bdT B0 B0.size hb1))
  go_ret
  exact ⟨rfl, B1⟩
set_option maxHeartbeats 4000000 in
set_option maxRecDepth 100000 in
theorem stap_off (s : S) (A : Option Addr) (n c0 b o : Nat) (xs : Nat → Int) (c : Cur) (k : Int) (held : Bool) (hv : vS s n xs = true) (hk : okB n c = false) (hn : n ≤ 9223372036854775807) (hc0 : n ≤ c0) (w : World) (hA : DataAt w A n b o xs) : Calls Try.prog 22 #[.agg (s.cs A n c0), .agg (Cur.cs c), iv k, .bool held] w fun e w' => e = .returned (iv 0) ∧ Below w.heap.size w w' := by
  have C0 := Lib.hid (show ((w.alloc (Obj.cells (s.cs A n c0) 24)).alloc (Obj.cells (Cur.cs c) 26)).heap[w.heap.size + 1]? = some (.cells (Cur.cs c) 26 (0, 0)) from heap_alloc2_new w _ _)
  have B0 : Below w.heap.size w ((w.alloc (Obj.cells (s.cs A n c0) 24)).alloc (Obj.cells (Cur.cs c) 26)) := ((Below.refl _ _).alloc (Nat.le_refl _) _).alloc (by simp) _
  have P0 := Lib.hid (show ((w.alloc (Obj.cells (s.cs A n c0) 24)).alloc (Obj.cells (Cur.cs c) 26)).heap[w.heap.size]? = some (.cells (s.cs A n c0) 24 (0, 0)) from heap_alloc2_old w _ _)
  have D0 := Lib.hid (hA.later B0)
  have VC := Lib.hid (show ∀ (W : World), DataAt W A n b o xs → Calls Try.prog 15 #[.agg (s.cs A n c0)] W fun e w' => e = .returned (.bool true) ∧ Below W.heap.size W w' from fun W h => by have := valid_any s A n c0 b o xs hn hc0 W h; rwa [hv] at this)
  have CC := Lib.hid (show ∀ (W : World), Calls Try.prog 61 #[.agg (Cur.cs c), iv n] W fun e w' => e = .returned (.bool false) ∧ Below W.heap.size W w' from fun W => by have := cursor_any n c W; rwa [hk] at this)
  clear hA hv hk
  go_enter Try.func22, Try.ntmps22
  go_wp2_with (first
    | (refine wpList_load_row rfl 24 (.tmp 4) rfl (w.heap.size) rfl 24 _ (0, 0) _ P0.out Try.underlying24 rfl (S.i24 _ _ _ _) ?_)
    | (go_at_call 15; (with_reducible refine (VC.out _ D0.out).mono ?_); rintro e w1 ⟨rfl, hb1⟩; have P1 := Lib.hid (bkBelow P0.out hb1); have C1 := Lib.hid (bkBelow C0.out hb1); have p1 := (bkCell P1.out 1).trans (show _ = some (.slice A n c0) from rfl); have D1 := Lib.hid (D0.out.later hb1); have B1 := bdT B0 B0.size hb1)
    | (refine gdOn (by rfl) ?_; refine wpList_load_row rfl 26 (.tmp 5) rfl (w.heap.size + 1) rfl 26 _ (0, 0) _ C1.out Try.underlying26 rfl (Cur.i26 _) ?_)
    | (go_at_call 61; (with_reducible refine (CC.out _).mono ?_); rintro e w2 ⟨rfl, hb2⟩; have P2 := Lib.hid (bkBelow P1.out hb2); have C2 := Lib.hid (bkBelow C1.out hb2); have k3 := (bkCell C2.out 3).trans (show _ = some (.bool c.done) from rfl); have D2 := Lib.hid (D1.out.later hb2); have B2 := bdT B1 B1.size hb2))
  go_ret
  exact ⟨rfl, B2⟩
set_option maxHeartbeats 4000000 in
set_option maxRecDepth 100000 in
theorem stap_rnga (s : S) (A : Option Addr) (n c0 b o : Nat) (xs : Nat → Int) (c : Cur) (k : Int) (held : Bool) (hv : vS s n xs = true) (hk : okB n c = true) (hs : k < -8) (hn : n ≤ 9223372036854775807) (hc0 : n ≤ c0) (w : World) (hA : DataAt w A n b o xs) : Calls Try.prog 22 #[.agg (s.cs A n c0), .agg (Cur.cs c), iv k, .bool held] w fun e w' => e = .returned (iv 0) ∧ Below w.heap.size w w' := by
  have C0 := Lib.hid (show ((w.alloc (Obj.cells (s.cs A n c0) 24)).alloc (Obj.cells (Cur.cs c) 26)).heap[w.heap.size + 1]? = some (.cells (Cur.cs c) 26 (0, 0)) from heap_alloc2_new w _ _)
  have B0 : Below w.heap.size w ((w.alloc (Obj.cells (s.cs A n c0) 24)).alloc (Obj.cells (Cur.cs c) 26)) := ((Below.refl _ _).alloc (Nat.le_refl _) _).alloc (by simp) _
  have P0 := Lib.hid (show ((w.alloc (Obj.cells (s.cs A n c0) 24)).alloc (Obj.cells (Cur.cs c) 26)).heap[w.heap.size]? = some (.cells (s.cs A n c0) 24 (0, 0)) from heap_alloc2_old w _ _)
  have D0 := Lib.hid (hA.later B0)
  have VC := Lib.hid (show ∀ (W : World), DataAt W A n b o xs → Calls Try.prog 15 #[.agg (s.cs A n c0)] W fun e w' => e = .returned (.bool true) ∧ Below W.heap.size W w' from fun W h => by have := valid_any s A n c0 b o xs hn hc0 W h; rwa [hv] at this)
  have CC := Lib.hid (show ∀ (W : World), Calls Try.prog 61 #[.agg (Cur.cs c), iv n] W fun e w' => e = .returned (.bool true) ∧ Below W.heap.size W w' from fun W => by have := cursor_any n c W; rwa [hk] at this)
  have d0 : decide (k < -8) = true := decide_eq_true hs
  clear hA hv hk
  go_enter Try.func22, Try.ntmps22
  go_wp2_with (first
    | (refine wpList_load_row rfl 24 (.tmp 4) rfl (w.heap.size) rfl 24 _ (0, 0) _ P0.out Try.underlying24 rfl (S.i24 _ _ _ _) ?_)
    | (go_at_call 15; (with_reducible refine (VC.out _ D0.out).mono ?_); rintro e w1 ⟨rfl, hb1⟩; have P1 := Lib.hid (bkBelow P0.out hb1); have C1 := Lib.hid (bkBelow C0.out hb1); have p1 := (bkCell P1.out 1).trans (show _ = some (.slice A n c0) from rfl); have D1 := Lib.hid (D0.out.later hb1); have B1 := bdT B0 B0.size hb1)
    | (refine gdOn (by rfl) ?_; refine wpList_load_row rfl 26 (.tmp 5) rfl (w.heap.size + 1) rfl 26 _ (0, 0) _ C1.out Try.underlying26 rfl (Cur.i26 _) ?_)
    | (go_at_call 61; (with_reducible refine (CC.out _).mono ?_); rintro e w2 ⟨rfl, hb2⟩; have P2 := Lib.hid (bkBelow P1.out hb2); have C2 := Lib.hid (bkBelow C1.out hb2); have k3 := (bkCell C2.out 3).trans (show _ = some (.bool c.done) from rfl); have D2 := Lib.hid (D1.out.later hb2); have B2 := bdT B1 B1.size hb2))
  go_ret
  exact ⟨rfl, B2⟩
set_option maxHeartbeats 4000000 in
set_option maxRecDepth 100000 in
theorem stap_rngb (s : S) (A : Option Addr) (n c0 b o : Nat) (xs : Nat → Int) (c : Cur) (k : Int) (held : Bool) (hv : vS s n xs = true) (hk : okB n c = true) (hs : -8 ≤ k) (hs1 : 8 < k) (hn : n ≤ 9223372036854775807) (hc0 : n ≤ c0) (w : World) (hA : DataAt w A n b o xs) : Calls Try.prog 22 #[.agg (s.cs A n c0), .agg (Cur.cs c), iv k, .bool held] w fun e w' => e = .returned (iv 0) ∧ Below w.heap.size w w' := by
  have C0 := Lib.hid (show ((w.alloc (Obj.cells (s.cs A n c0) 24)).alloc (Obj.cells (Cur.cs c) 26)).heap[w.heap.size + 1]? = some (.cells (Cur.cs c) 26 (0, 0)) from heap_alloc2_new w _ _)
  have B0 : Below w.heap.size w ((w.alloc (Obj.cells (s.cs A n c0) 24)).alloc (Obj.cells (Cur.cs c) 26)) := ((Below.refl _ _).alloc (Nat.le_refl _) _).alloc (by simp) _
  have P0 := Lib.hid (show ((w.alloc (Obj.cells (s.cs A n c0) 24)).alloc (Obj.cells (Cur.cs c) 26)).heap[w.heap.size]? = some (.cells (s.cs A n c0) 24 (0, 0)) from heap_alloc2_old w _ _)
  have D0 := Lib.hid (hA.later B0)
  have VC := Lib.hid (show ∀ (W : World), DataAt W A n b o xs → Calls Try.prog 15 #[.agg (s.cs A n c0)] W fun e w' => e = .returned (.bool true) ∧ Below W.heap.size W w' from fun W h => by have := valid_any s A n c0 b o xs hn hc0 W h; rwa [hv] at this)
  have CC := Lib.hid (show ∀ (W : World), Calls Try.prog 61 #[.agg (Cur.cs c), iv n] W fun e w' => e = .returned (.bool true) ∧ Below W.heap.size W w' from fun W => by have := cursor_any n c W; rwa [hk] at this)
  have d0 : decide (k < -8) = false := decide_eq_false (by omega)
  have d1 : decide (8 < k) = true := decide_eq_true hs1
  clear hA hv hk
  go_enter Try.func22, Try.ntmps22
  go_wp2_with (first
    | (refine wpList_load_row rfl 24 (.tmp 4) rfl (w.heap.size) rfl 24 _ (0, 0) _ P0.out Try.underlying24 rfl (S.i24 _ _ _ _) ?_)
    | (go_at_call 15; (with_reducible refine (VC.out _ D0.out).mono ?_); rintro e w1 ⟨rfl, hb1⟩; have P1 := Lib.hid (bkBelow P0.out hb1); have C1 := Lib.hid (bkBelow C0.out hb1); have p1 := (bkCell P1.out 1).trans (show _ = some (.slice A n c0) from rfl); have D1 := Lib.hid (D0.out.later hb1); have B1 := bdT B0 B0.size hb1)
    | (refine gdOn (by rfl) ?_; refine wpList_load_row rfl 26 (.tmp 5) rfl (w.heap.size + 1) rfl 26 _ (0, 0) _ C1.out Try.underlying26 rfl (Cur.i26 _) ?_)
    | (go_at_call 61; (with_reducible refine (CC.out _).mono ?_); rintro e w2 ⟨rfl, hb2⟩; have P2 := Lib.hid (bkBelow P1.out hb2); have C2 := Lib.hid (bkBelow C1.out hb2); have k3 := (bkCell C2.out 3).trans (show _ = some (.bool c.done) from rfl); have D2 := Lib.hid (D1.out.later hb2); have B2 := bdT B1 B1.size hb2))
  go_ret
  exact ⟨rfl, B2⟩
set_option maxHeartbeats 4000000 in
set_option maxRecDepth 100000 in
theorem stap_done (s : S) (A : Option Addr) (n c0 b o : Nat) (xs : Nat → Int) (c : Cur) (k : Int) (held : Bool) (hv : vS s n xs = true) (hk : okB n c = true) (hs : -8 ≤ k) (hs1 : k ≤ 8) (hd : c.done = true) (hn : n ≤ 9223372036854775807) (hc0 : n ≤ c0) (w : World) (hA : DataAt w A n b o xs) : Calls Try.prog 22 #[.agg (s.cs A n c0), .agg (Cur.cs c), iv k, .bool held] w fun e w' => e = .returned (iv 0) ∧ Below w.heap.size w w' := by
  have C0 := Lib.hid (show ((w.alloc (Obj.cells (s.cs A n c0) 24)).alloc (Obj.cells (Cur.cs c) 26)).heap[w.heap.size + 1]? = some (.cells (Cur.cs c) 26 (0, 0)) from heap_alloc2_new w _ _)
  have B0 : Below w.heap.size w ((w.alloc (Obj.cells (s.cs A n c0) 24)).alloc (Obj.cells (Cur.cs c) 26)) := ((Below.refl _ _).alloc (Nat.le_refl _) _).alloc (by simp) _
  have P0 := Lib.hid (show ((w.alloc (Obj.cells (s.cs A n c0) 24)).alloc (Obj.cells (Cur.cs c) 26)).heap[w.heap.size]? = some (.cells (s.cs A n c0) 24 (0, 0)) from heap_alloc2_old w _ _)
  have D0 := Lib.hid (hA.later B0)
  have VC := Lib.hid (show ∀ (W : World), DataAt W A n b o xs → Calls Try.prog 15 #[.agg (s.cs A n c0)] W fun e w' => e = .returned (.bool true) ∧ Below W.heap.size W w' from fun W h => by have := valid_any s A n c0 b o xs hn hc0 W h; rwa [hv] at this)
  have CC := Lib.hid (show ∀ (W : World), Calls Try.prog 61 #[.agg (Cur.cs c), iv n] W fun e w' => e = .returned (.bool true) ∧ Below W.heap.size W w' from fun W => by have := cursor_any n c W; rwa [hk] at this)
  have d0 : decide (k < -8) = false := decide_eq_false (by omega)
  have d1 : decide (8 < k) = false := decide_eq_false (by omega)
  clear hA hv hk
  go_enter Try.func22, Try.ntmps22
  go_wp2_with (first
    | (refine wpList_load_row rfl 24 (.tmp 4) rfl (w.heap.size) rfl 24 _ (0, 0) _ P0.out Try.underlying24 rfl (S.i24 _ _ _ _) ?_)
    | (go_at_call 15; (with_reducible refine (VC.out _ D0.out).mono ?_); rintro e w1 ⟨rfl, hb1⟩; have P1 := Lib.hid (bkBelow P0.out hb1); have C1 := Lib.hid (bkBelow C0.out hb1); have p1 := (bkCell P1.out 1).trans (show _ = some (.slice A n c0) from rfl); have D1 := Lib.hid (D0.out.later hb1); have B1 := bdT B0 B0.size hb1)
    | (refine gdOn (by rfl) ?_; refine wpList_load_row rfl 26 (.tmp 5) rfl (w.heap.size + 1) rfl 26 _ (0, 0) _ C1.out Try.underlying26 rfl (Cur.i26 _) ?_)
    | (go_at_call 61; (with_reducible refine (CC.out _).mono ?_); rintro e w2 ⟨rfl, hb2⟩; have P2 := Lib.hid (bkBelow P1.out hb2); have C2 := Lib.hid (bkBelow C1.out hb2); have k3 := (bkCell C2.out 3).trans (show _ = some (.bool c.done) from rfl); have D2 := Lib.hid (D1.out.later hb2); have B2 := bdT B1 B1.size hb2; rw [hd] at k3))
  go_ret
  exact ⟨rfl, B2⟩
set_option maxHeartbeats 4000000 in
set_option maxRecDepth 100000 in
theorem stap_ok (s : S) (A : Option Addr) (n c0 b o : Nat) (xs : Nat → Int) (c : Cur) (k : Int) (held : Bool) (hv : vS s n xs = true) (hk : okB n c = true) (hs : -8 ≤ k) (hs1 : k ≤ 8) (hd : c.done = false) (hn : n ≤ 9223372036854775807) (hc0 : n ≤ c0) (w : World) (hA : DataAt w A n b o xs) : Calls Try.prog 22 #[.agg (s.cs A n c0), .agg (Cur.cs c), iv k, .bool held] w fun e w' => e = .returned (iv (tapM s n xs c k held)) ∧ Below w.heap.size w w' := by
  have C0 := Lib.hid (show ((w.alloc (Obj.cells (s.cs A n c0) 24)).alloc (Obj.cells (Cur.cs c) 26)).heap[w.heap.size + 1]? = some (.cells (Cur.cs c) 26 (0, 0)) from heap_alloc2_new w _ _)
  have B0 : Below w.heap.size w ((w.alloc (Obj.cells (s.cs A n c0) 24)).alloc (Obj.cells (Cur.cs c) 26)) := ((Below.refl _ _).alloc (Nat.le_refl _) _).alloc (by simp) _
  have P0 := Lib.hid (show ((w.alloc (Obj.cells (s.cs A n c0) 24)).alloc (Obj.cells (Cur.cs c) 26)).heap[w.heap.size]? = some (.cells (s.cs A n c0) 24 (0, 0)) from heap_alloc2_old w _ _)
  have D0 := Lib.hid (hA.later B0)
  have VC := Lib.hid (show ∀ (W : World), DataAt W A n b o xs → Calls Try.prog 15 #[.agg (s.cs A n c0)] W fun e w' => e = .returned (.bool true) ∧ Below W.heap.size W w' from fun W h => by have := valid_any s A n c0 b o xs hn hc0 W h; rwa [hv] at this)
  have CC := Lib.hid (show ∀ (W : World), Calls Try.prog 61 #[.agg (Cur.cs c), iv n] W fun e w' => e = .returned (.bool true) ∧ Below W.heap.size W w' from fun W => by have := cursor_any n c W; rwa [hk] at this)
  have d0 : decide (k < -8) = false := decide_eq_false (by omega)
  have d1 : decide (8 < k) = false := decide_eq_false (by omega)
  have TC := Lib.hid fun (W : World) (h : W.heap[w.heap.size]? = some (.cells (s.cs A n c0) 24 (0, 0))) (hD : DataAt W A n b o xs) => tap_any s A n c0 w.heap.size b o xs c k held (vS_loops hv) (vS_frames hv) (okB_iff.1 hk) (by omega) hs1 W h hD
  clear hA hv hk
  go_enter Try.func22, Try.ntmps22
  go_wp2_with (first
    | (refine wpList_load_row rfl 24 (.tmp 4) rfl (w.heap.size) rfl 24 _ (0, 0) _ P0.out Try.underlying24 rfl (S.i24 _ _ _ _) ?_)
    | (go_at_call 15; (with_reducible refine (VC.out _ D0.out).mono ?_); rintro e w1 ⟨rfl, hb1⟩; have P1 := Lib.hid (bkBelow P0.out hb1); have C1 := Lib.hid (bkBelow C0.out hb1); have p1 := (bkCell P1.out 1).trans (show _ = some (.slice A n c0) from rfl); have D1 := Lib.hid (D0.out.later hb1); have B1 := bdT B0 B0.size hb1)
    | (refine gdOn (by rfl) ?_; refine wpList_load_row rfl 26 (.tmp 5) rfl (w.heap.size + 1) rfl 26 _ (0, 0) _ C1.out Try.underlying26 rfl (Cur.i26 _) ?_)
    | (go_at_call 61; (with_reducible refine (CC.out _).mono ?_); rintro e w2 ⟨rfl, hb2⟩; have P2 := Lib.hid (bkBelow P1.out hb2); have C2 := Lib.hid (bkBelow C1.out hb2); have k3 := (bkCell C2.out 3).trans (show _ = some (.bool c.done) from rfl); have D2 := Lib.hid (D1.out.later hb2); have B2 := bdT B1 B1.size hb2; rw [hd] at k3)
    | (refine wpList_load_row rfl 26 (.tmp 5) rfl (w.heap.size + 1) rfl 26 _ (0, 0) _ C2.out Try.underlying26 rfl (Cur.i26 _) ?_)
    | (go_at_call 66; (with_reducible refine (TC.out _ P2.out D2.out).mono ?_); rintro e w3 ⟨rfl, hb3⟩; have B3 := bdT B2 B2.size hb3))
  go_ret
  exact ⟨rfl, B3⟩
theorem stap_any (s : S) (A : Option Addr) (n c0 b o : Nat) (xs : Nat → Int) (c : Cur) (k : Int) (held : Bool) (hn : n ≤ 9223372036854775807) (hc0 : n ≤ c0) (w : World) (hA : DataAt w A n b o xs) : Calls Try.prog 22 #[.agg (s.cs A n c0), .agg (Cur.cs c), iv k, .bool held] w fun e w' => e = .returned (iv (tapA s n xs c k held)) ∧ Below w.heap.size w w' := by
  cases hv : vS s n xs
  · rw [show tapA s n xs c k held = 0 from if_neg (by rw [hv]; simp)]
    exact stap_bad s A n c0 b o xs c k held hv hn hc0 w hA
  · cases hk : okB n c
    · rw [show tapA s n xs c k held = 0 from if_neg (by rw [hk]; simp)]
      exact stap_off s A n c0 b o xs c k held hv hk hn hc0 w hA
    · by_cases h0 : k < -8
      · rw [show tapA s n xs c k held = 0 from if_neg (by omega)]
        exact stap_rnga s A n c0 b o xs c k held hv hk h0 hn hc0 w hA
      · by_cases h1 : 8 < k
        · rw [show tapA s n xs c k held = 0 from if_neg (by omega)]
          exact stap_rngb s A n c0 b o xs c k held hv hk (by omega) h1 hn hc0 w hA
        · have e : tapA s n xs c k held = tapM s n xs c k held := if_pos ⟨hv, hk, by omega, by omega⟩
          rw [e]
          cases hd : c.done
          · exact stap_ok s A n c0 b o xs c k held hv hk (by omega) (by omega) hd hn hc0 w hA
          · rw [show tapM s n xs c k held = 0 from if_pos hd]
            exact stap_done s A n c0 b o xs c k held hv hk (by omega) (by omega) hd hn hc0 w hA
end Go.Proofs.Ytnmoiolddfboiaa.SX

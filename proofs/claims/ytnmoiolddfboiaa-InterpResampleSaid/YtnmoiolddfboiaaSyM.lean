/- The value at a cursor: both packages tell the same. -/
import Derived.Test.YtnmoiolddfboiaaSyL
import Derived.Test.YtnmoiolddfboiaaSxQ
namespace Go.Proofs.Ytnmoiolddfboiaa.SX
open Go.RowKit Go.Proofs.YtnmoiolddfboiaaW.PrintLast Go.Proofs.Ytnmoiolddfboiaa.TX Go.Proofs.Ytnmoiolddfboiaa.Cu
set_option linter.unusedVariables false
set_option linter.unusedSimpArgs false
set_option maxHeartbeats 4000000 in
set_option maxRecDepth 100000 in
theorem itame_any (s : S) (A : Option Addr) (n c : Nat) (w : World) : Calls Try.prog 40 #[.agg (s.cs A n c)] w fun e w' => e = .returned (.bool (decide (n ≤ 5000 ∧ s.nm.size ≤ 100))) ∧ Below w.heap.size w w' := by
  have c0 := (bkCell (heap_alloc_new w (Obj.cells (s.cs A n c) 24)) 0).trans (show _ = some (Value.string s.nm) from rfl)
  have c1 := (bkCell (heap_alloc_new w (Obj.cells (s.cs A n c) 24)) 1).trans (show _ = some (Value.slice A n c) from rfl)
  by_cases h0 : n ≤ 5000
  · have d0 : decide ((n : Int) ≤ 5000) = true := decide_eq_true (by omega)
    by_cases h1 : s.nm.size ≤ 100
    · have d1 : decide ((s.nm.size : Int) ≤ 100) = true := decide_eq_true (by omega)
      rw [decide_eq_true (show n ≤ 5000 ∧ s.nm.size ≤ 100 from ⟨h0, h1⟩)]
      clear h0 h1
      go_enter Try.func40, Try.ntmps40
      go_wp2
      go_ret
      exact ⟨rfl, (Below.refl _ _).alloc (Nat.le_refl _) _⟩
    · have d1 : decide ((s.nm.size : Int) ≤ 100) = false := decide_eq_false (by omega)
      rw [decide_eq_false (show ¬ (n ≤ 5000 ∧ s.nm.size ≤ 100) from fun h => h1 h.2)]
      clear h0 h1
      go_enter Try.func40, Try.ntmps40
      go_wp2
      go_ret
      exact ⟨rfl, (Below.refl _ _).alloc (Nat.le_refl _) _⟩
  · have d0 : decide ((n : Int) ≤ 5000) = false := decide_eq_false (by omega)
    rw [decide_eq_false (show ¬ (n ≤ 5000 ∧ s.nm.size ≤ 100) from fun h => h0 h.1)]
    clear h0
    go_enter Try.func40, Try.ntmps40
    go_wp2
    go_ret
    exact ⟨rfl, (Below.refl _ _).alloc (Nat.le_refl _) _⟩
def atc (s : S) (A : Option Addr) (n c : Nat) (cur : Cur) (kind : Int) (held : Bool) : Array Value := #[.string s.nm, .slice A n c, iv s.a2, iv s.a3, iv s.a4, iv s.a5, iv s.a6, iv s.a7, iv s.a8, iv s.a9, iv s.a10, iv s.a11, iv s.a12, iv cur.pos, iv cur.frac, .bool cur.back, .bool cur.done, iv kind, .bool held]
theorem at_smp {w : World} {g : Nat} {s : S} {A : Option Addr} {n c : Nat} {cur : Cur} {kind : Int} {held : Bool} (hg : w.heap[g]? = some (.cells (atc s A n c cur kind held) 51 (0, 0))) : w.rangeAt g 0 (s.cs A n c).toList := by
  intro j v hj
  rw [Nat.zero_add, bkCell hg j]
  have hl : j < 13 := by
    have := (List.getElem?_eq_some_iff.1 hj).1
    simpa [S.cs] using this
  have e : ∀ j, j < 13 → (atc s A n c cur kind held)[j]? = (s.cs A n c).toList[j]? := by
    intro j hj
    rcases (by omega : j = 0 ∨ j = 1 ∨ j = 2 ∨ j = 3 ∨ j = 4 ∨ j = 5 ∨ j = 6 ∨ j = 7 ∨ j = 8 ∨ j = 9 ∨ j = 10 ∨ j = 11 ∨ j = 12) with rfl | rfl | rfl | rfl | rfl | rfl | rfl | rfl | rfl | rfl | rfl | rfl | rfl <;> rfl
  rw [e j hl]
  exact hj
theorem at_cur {w : World} {g : Nat} {s : S} {A : Option Addr} {n c : Nat} {cur : Cur} {kind : Int} {held : Bool} (hg : w.heap[g]? = some (.cells (atc s A n c cur kind held) 51 (0, 0))) : w.rangeAt g 13 (Cur.cs cur).toList := by
  intro j v hj
  rw [bkCell hg (13 + j)]
  have hl : j < 4 := by
    have := (List.getElem?_eq_some_iff.1 hj).1
    simpa [Cur.cs] using this
  have e : ∀ j, j < 4 → (atc s A n c cur kind held)[13 + j]? = (Cur.cs cur).toList[j]? := by
    intro j hj
    rcases (by omega : j = 0 ∨ j = 1 ∨ j = 2 ∨ j = 3) with rfl | rfl | rfl | rfl <;> rfl
  rw [e j hl]
  exact hj
theorem exec_at_smp {oi : Oper} {a : Act} {w : World} (x : Operand) (ho : oi.op = .load 24 x) (g : Nat) (hx : a.eval x = .pointer (some ⟨g, 0, none⟩)) {s : S} {A : Option Addr} {n c : Nat} (hc : w.rangeAt g 0 (s.cs A n c).toList) :
    (execOp a.eval oi).run Try.prog w = .ok (.value (.agg (s.cs A n c))) w := by
  have := run_loadVar_mid (P := Try.prog) w g 0 24 (s.cs A n c).toList _ hc Try.underlying24 rfl (by simpa using S.i24 s A n c)
  unfold execOp
  simp only [ho, hx, Instr.loadAt, Instr.sureAddr, Sem.run_bind, Sem.run_pure, Result.andThen_ok, this, Array.toArray_toList]
theorem exec_at_cur {oi : Oper} {a : Act} {w : World} (x : Operand) (ho : oi.op = .load 26 x) (g : Nat) (hx : a.eval x = .pointer (some ⟨g, 13, none⟩)) {cur : Cur} (hc : w.rangeAt g 13 (Cur.cs cur).toList) :
    (execOp a.eval oi).run Try.prog w = .ok (.value (.agg (Cur.cs cur))) w := by
  have := run_loadVar_mid (P := Try.prog) w g 13 26 (Cur.cs cur).toList _ hc Try.underlying26 rfl (by simpa using Cur.i26 cur)
  unfold execOp
  simp only [ho, hx, Instr.loadAt, Instr.sureAddr, Sem.run_bind, Sem.run_pure, Result.andThen_ok, this, Array.toArray_toList]
set_option maxHeartbeats 16000000 in
set_option maxRecDepth 100000 in
theorem at_both (s : S) (A : Option Addr) (n c0 b o : Nat) (xs : Nat → Int) (cur : Cur) (kind : Int) (held : Bool) (hn : n ≤ 9223372036854775807) (hc0 : n ≤ c0) (w : World) (hA : DataAt w A n b o xs) : Calls Try.prog 10 #[.agg (atc s A n c0 cur kind held)] w fun e w' => e = .returned (.bool true) ∧ Below w.heap.size w w' := by
  have B0 : Below w.heap.size w (w.alloc (Obj.cells (atc s A n c0 cur kind held) 51)) := (Below.refl _ _).alloc (Nat.le_refl _) _
  have P0 := Lib.hid (show (w.alloc (Obj.cells (atc s A n c0 cur kind held) 51)).heap[w.heap.size]? = some (.cells (atc s A n c0 cur kind held) 51 (0, 0)) from heap_alloc_new w _)
  have D0 := Lib.hid (hA.later B0)
  obtain ⟨r, hr⟩ : ∃ r, atA s n xs cur kind held = r := ⟨_, rfl⟩
  have AQ := Lib.hid fun (W : World) (h : DataAt W A n b o xs) => (show Calls Try.prog 41 #[.agg (s.cs A n c0), .agg (Cur.cs cur), iv kind, .bool held] W fun e w' => e = .returned (iv r) ∧ Below W.heap.size W w' from hr ▸ iat_any s A n c0 b o xs cur kind held hn hc0 W h)
  have RQ := Lib.hid fun (W : World) (h : DataAt W A n b o xs) => (show Calls Try.prog 42 #[.agg (s.cs A n c0), .agg (Cur.cs cur), iv kind, .bool held] W fun e w' => e = .returned (iv r) ∧ Below W.heap.size W w' from hr ▸ rat_any s A n c0 b o xs cur kind held hn hc0 W h)
  have er : (r == r) = true := by simp
  have TQ := Lib.hid fun (W : World) => itame_any s A n c0 W
  clear hr hA
  cases ht : decide (n ≤ 5000 ∧ s.nm.size ≤ 100)
  · rw [ht] at TQ
    clear ht
    go_enter Try.func10, Try.ntmps10
    go_wp2_with (first
      | (refine wpList_load_mid rfl 24 (.tmp 3) rfl (w.heap.size) 0 rfl (s.cs A n c0).toList _ (at_smp P0.out) Try.underlying24 rfl (by simpa using S.i24 s A n c0) ?_)
      | (go_at_call 40; (with_reducible refine (TQ.out _).mono ?_); rintro e w1 ⟨rfl, hb1⟩))
    go_ret
    exact ⟨rfl, bdT B0 B0.size hb1⟩
  · rw [ht] at TQ
    clear ht
    go_enter Try.func10, Try.ntmps10
    go_upto_region 3 with (first
      | (refine wpList_load_mid rfl 24 (.tmp 3) rfl (w.heap.size) 0 rfl (s.cs A n c0).toList _ (at_smp P0.out) Try.underlying24 rfl (by simpa using S.i24 s A n c0) ?_)
      | (go_at_call 40; (with_reducible refine (TQ.out _).mono ?_); rintro e w1 ⟨rfl, hb1⟩))
    have P1 := Lib.hid (bkBelow P0.out hb1)
    have D1 := Lib.hid (D0.out.later hb1)
    have B1 := bdT B0 B0.size hb1
    clear P0 D0 B0 hb1
    refine start_ (n := 20) (S := fun w' => w'.heap[w.heap.size]? = some (.cells (atc s A n c0 cur kind held) 51 (0, 0)) ∧ DataAt w' A n b o xs ∧ Below w.heap.size w w') (ds := []) #[false, false, false, false, false, false, false, false, false, false, false, false, false, false, false, false, false, false, false, false] (by kernel_rfl) rfl rfl ⟨P1.out, drewQ D1.out, B1.drew⟩ (fun hHeld => ?_)
    refine pure_ (i := 0) (N := some 7) (v := ?_) (a' := ?_) #[true, false, false, false, false, false, false, false, false, false, false, false, false, false, false, false, false, false, false, false] rfl rfl (by kernel_rfl) (fun _ _ _ h => h) (Or.inl ⟨by rfl, ?_⟩) ?_ ?_
    rotate_left
    · intro w'
      go_simp
      with_reducible rfl
    rotate_left
    · simp only [Act.put, List.setIfInBounds_toArray, List.set_cons_zero, List.set_cons_succ, i64_w, i32_w, er]
      rfl
    refine pure_ (i := 2) (N := some 9) (v := ?_) (a' := ?_) #[true, false, true, false, false, false, false, false, false, false, false, false, false, false, false, false, false, false, false, false] rfl rfl (by kernel_rfl) (fun _ _ _ h => h) (Or.inl ⟨by rfl, ?_⟩) ?_ ?_
    rotate_left
    · intro w'
      go_simp
      with_reducible rfl
    rotate_left
    · simp only [Act.put, List.setIfInBounds_toArray, List.set_cons_zero, List.set_cons_succ, i64_w, i32_w, er]
      rfl
    refine pure_ (i := 4) (N := some 11) (v := ?_) (a' := ?_) #[true, false, true, false, true, false, false, false, false, false, false, false, false, false, false, false, false, false, false, false] rfl rfl (by kernel_rfl) (fun _ _ _ h => h) (Or.inl ⟨by rfl, ?_⟩) ?_ ?_
    rotate_left
    · intro w'
      go_simp
      with_reducible rfl
    rotate_left
    · simp only [Act.put, List.setIfInBounds_toArray, List.set_cons_zero, List.set_cons_succ, i64_w, i32_w, er]
      rfl
    refine pure_ (i := 6) (N := some 13) (v := ?_) (a' := ?_) #[true, false, true, false, true, false, true, false, false, false, false, false, false, false, false, false, false, false, false, false] rfl rfl (by kernel_rfl) (fun _ _ _ h => h) (Or.inl ⟨by rfl, ?_⟩) ?_ ?_
    rotate_left
    · intro w'
      go_simp
      with_reducible rfl
    rotate_left
    · simp only [Act.put, List.setIfInBounds_toArray, List.set_cons_zero, List.set_cons_succ, i64_w, i32_w, er]
      rfl
    refine pure_ (i := 9) (N := some 16) (v := ?_) (a' := ?_) #[true, false, true, false, true, false, true, false, false, true, false, false, false, false, false, false, false, false, false, false] rfl rfl (by kernel_rfl) (fun _ _ _ h => h) (Or.inl ⟨by rfl, ?_⟩) ?_ ?_
    rotate_left
    · intro w'
      go_simp
      with_reducible rfl
    rotate_left
    · simp only [Act.put, List.setIfInBounds_toArray, List.set_cons_zero, List.set_cons_succ, i64_w, i32_w, er]
      rfl
    refine pure_ (i := 11) (N := some 18) (v := ?_) (a' := ?_) #[true, false, true, false, true, false, true, false, false, true, false, true, false, false, false, false, false, false, false, false] rfl rfl (by kernel_rfl) (fun _ _ _ h => h) (Or.inl ⟨by rfl, ?_⟩) ?_ ?_
    rotate_left
    · intro w'
      go_simp
      with_reducible rfl
    rotate_left
    · simp only [Act.put, List.setIfInBounds_toArray, List.set_cons_zero, List.set_cons_succ, i64_w, i32_w, er]
      rfl
    refine pure_ (i := 13) (N := some 20) (v := ?_) (a' := ?_) #[true, false, true, false, true, false, true, false, false, true, false, true, false, true, false, false, false, false, false, false] rfl rfl (by kernel_rfl) (fun _ _ _ h => h) (Or.inl ⟨by rfl, ?_⟩) ?_ ?_
    rotate_left
    · intro w'
      go_simp
      with_reducible rfl
    rotate_left
    · simp only [Act.put, List.setIfInBounds_toArray, List.set_cons_zero, List.set_cons_succ, i64_w, i32_w, er]
      rfl
    refine pure_ (i := 15) (N := some 22) (v := ?_) (a' := ?_) #[true, false, true, false, true, false, true, false, false, true, false, true, false, true, false, true, false, false, false, false] rfl rfl (by kernel_rfl) (fun _ _ _ h => h) (Or.inl ⟨by rfl, ?_⟩) ?_ ?_
    rotate_left
    · intro w'
      go_simp
      with_reducible rfl
    rotate_left
    · simp only [Act.put, List.setIfInBounds_toArray, List.set_cons_zero, List.set_cons_succ, i64_w, i32_w, er]
      rfl
    refine take_ (i := 1) (N := some 8) (v := ?_) (a' := ?_) #[true, true, true, false, true, false, true, false, false, true, false, true, false, true, false, true, false, false, false, false] rfl rfl (by kernel_rfl) (fun _ _ _ h => h) (Or.inl ⟨by rfl, ?_⟩) hHeld ?_ ?_
    rotate_left
    · rintro w' ⟨s0, s1, s2⟩
      refine exec_at_smp (.tmp 7) ?_ (w.heap.size) ?_ (at_smp s0) <;> rfl
    rotate_left
    · simp only [Act.put, List.setIfInBounds_toArray, List.set_cons_zero, List.set_cons_succ, i64_w, i32_w, er]
      rfl
    refine take_ (i := 3) (N := some 10) (v := ?_) (a' := ?_) #[true, true, true, true, true, false, true, false, false, true, false, true, false, true, false, true, false, false, false, false] rfl rfl (by kernel_rfl) (fun _ _ _ h => h) (Or.inl ⟨by rfl, ?_⟩) hHeld ?_ ?_
    rotate_left
    · rintro w' ⟨s0, s1, s2⟩
      refine exec_at_cur (.tmp 9) ?_ (w.heap.size) ?_ (at_cur s0) <;> rfl
    rotate_left
    · simp only [Act.put, List.setIfInBounds_toArray, List.set_cons_zero, List.set_cons_succ, i64_w, i32_w, er]
      rfl
    refine take_ (i := 5) (N := some 12) (v := ?_) (a' := ?_) #[true, true, true, true, true, true, true, false, false, true, false, true, false, true, false, true, false, false, false, false] rfl rfl (by kernel_rfl) (fun _ _ _ h => h) (Or.inl ⟨by rfl, ?_⟩) hHeld ?_ ?_
    rotate_left
    · rintro w' ⟨s0, s1, s2⟩
      have zc := (bkCell s0 17).trans (show _ = some (iv kind) from rfl)
      clear s0 s1 s2
      go_simp
      with_reducible rfl
    rotate_left
    · simp only [Act.put, List.setIfInBounds_toArray, List.set_cons_zero, List.set_cons_succ, i64_w, i32_w, er]
      rfl
    refine take_ (i := 7) (N := some 14) (v := ?_) (a' := ?_) #[true, true, true, true, true, true, true, true, false, true, false, true, false, true, false, true, false, false, false, false] rfl rfl (by kernel_rfl) (fun _ _ _ h => h) (Or.inl ⟨by rfl, ?_⟩) hHeld ?_ ?_
    rotate_left
    · rintro w' ⟨s0, s1, s2⟩
      have zc := (bkCell s0 18).trans (show _ = some (.bool held) from rfl)
      clear s0 s1 s2
      go_simp
      with_reducible rfl
    rotate_left
    · simp only [Act.put, List.setIfInBounds_toArray, List.set_cons_zero, List.set_cons_succ, i64_w, i32_w, er]
      rfl
    refine take_ (i := 10) (N := some 17) (v := ?_) (a' := ?_) #[true, true, true, true, true, true, true, true, false, true, true, true, false, true, false, true, false, false, false, false] rfl rfl (by kernel_rfl) (fun _ _ _ h => h) (Or.inl ⟨by rfl, ?_⟩) hHeld ?_ ?_
    rotate_left
    · rintro w' ⟨s0, s1, s2⟩
      refine exec_at_smp (.tmp 16) ?_ (w.heap.size) ?_ (at_smp s0) <;> rfl
    rotate_left
    · simp only [Act.put, List.setIfInBounds_toArray, List.set_cons_zero, List.set_cons_succ, i64_w, i32_w, er]
      rfl
    refine take_ (i := 12) (N := some 19) (v := ?_) (a' := ?_) #[true, true, true, true, true, true, true, true, false, true, true, true, true, true, false, true, false, false, false, false] rfl rfl (by kernel_rfl) (fun _ _ _ h => h) (Or.inl ⟨by rfl, ?_⟩) hHeld ?_ ?_
    rotate_left
    · rintro w' ⟨s0, s1, s2⟩
      refine exec_at_cur (.tmp 18) ?_ (w.heap.size) ?_ (at_cur s0) <;> rfl
    rotate_left
    · simp only [Act.put, List.setIfInBounds_toArray, List.set_cons_zero, List.set_cons_succ, i64_w, i32_w, er]
      rfl
    refine take_ (i := 14) (N := some 21) (v := ?_) (a' := ?_) #[true, true, true, true, true, true, true, true, false, true, true, true, true, true, true, true, false, false, false, false] rfl rfl (by kernel_rfl) (fun _ _ _ h => h) (Or.inl ⟨by rfl, ?_⟩) hHeld ?_ ?_
    rotate_left
    · rintro w' ⟨s0, s1, s2⟩
      have zc := (bkCell s0 17).trans (show _ = some (iv kind) from rfl)
      clear s0 s1 s2
      go_simp
      with_reducible rfl
    rotate_left
    · simp only [Act.put, List.setIfInBounds_toArray, List.set_cons_zero, List.set_cons_succ, i64_w, i32_w, er]
      rfl
    refine take_ (i := 16) (N := some 23) (v := ?_) (a' := ?_) #[true, true, true, true, true, true, true, true, false, true, true, true, true, true, true, true, true, false, false, false] rfl rfl (by kernel_rfl) (fun _ _ _ h => h) (Or.inl ⟨by rfl, ?_⟩) hHeld ?_ ?_
    rotate_left
    · rintro w' ⟨s0, s1, s2⟩
      have zc := (bkCell s0 18).trans (show _ = some (.bool held) from rfl)
      clear s0 s1 s2
      go_simp
      with_reducible rfl
    rotate_left
    · simp only [Act.put, List.setIfInBounds_toArray, List.set_cons_zero, List.set_cons_succ, i64_w, i32_w, er]
      rfl
    refine one_ (i := 8) (N := some 15) #[true, true, true, true, true, true, true, true, true, true, true, true, true, true, true, true, true, false, false, false] rfl rfl (by kernel_rfl) (by decide) (fun K hK => ?_)
    obtain ⟨s0, s1, s2⟩ := hHeld
    refine goes_ Try.func41 (by kernel_rfl) rfl #[.agg (s.cs A n c0), .agg (Cur.cs cur), iv kind, .bool held] (by rfl) rfl rfl (by simp only [List.map_toArray, List.map_cons, List.map_nil]; rfl) ?_
    with_reducible refine (AQ.out _ s1).mono ?_
    rintro e wx8 ⟨rfl, hb⟩
    refine ⟨_, rfl, ?_⟩
    have Y8_0 := Lib.hid (bkBelow s0 hb)
    have Y8_1 := Lib.hid (s1.later hb)
    have Y8_2 := bdT s2 s2.size hb
    clear hb s0 s1 s2
    refine hK.out _ _ ⟨Y8_0.out, Y8_1.out, Y8_2⟩ (fun hHeld => ?_)
    clear hK K
    refine norm_ (a' := ?_) ?_ ?_
    rotate_left
    · show Act.put _ (some 15) _ = _
      simp only [Act.put, List.setIfInBounds_toArray, List.set_cons_zero, List.set_cons_succ, i64_w, i32_w, er]
      rfl
    refine one_ (i := 17) (N := some 24) #[true, true, true, true, true, true, true, true, true, true, true, true, true, true, true, true, true, true, false, false] rfl rfl (by kernel_rfl) (by decide) (fun K hK => ?_)
    obtain ⟨s0, s1, s2⟩ := hHeld
    refine goes_ Try.func42 (by kernel_rfl) rfl #[.agg (s.cs A n c0), .agg (Cur.cs cur), iv kind, .bool held] (by rfl) rfl rfl (by simp only [List.map_toArray, List.map_cons, List.map_nil]; rfl) ?_
    with_reducible refine (RQ.out _ s1).mono ?_
    rintro e wx17 ⟨rfl, hb⟩
    refine ⟨_, rfl, ?_⟩
    have Y17_0 := Lib.hid (bkBelow s0 hb)
    have Y17_1 := Lib.hid (s1.later hb)
    have Y17_2 := bdT s2 s2.size hb
    clear hb s0 s1 s2
    refine hK.out _ _ ⟨Y17_0.out, Y17_1.out, Y17_2⟩ (fun hHeld => ?_)
    clear hK K
    refine norm_ (a' := ?_) ?_ ?_
    rotate_left
    · show Act.put _ (some 24) _ = _
      simp only [Act.put, List.setIfInBounds_toArray, List.set_cons_zero, List.set_cons_succ, i64_w, i32_w, er]
      rfl
    refine pure_ (i := 18) (N := some 25) (v := ?_) (a' := ?_) #[true, true, true, true, true, true, true, true, true, true, true, true, true, true, true, true, true, true, true, false] rfl rfl (by kernel_rfl) (fun _ _ _ h => h) (Or.inl ⟨by rfl, ?_⟩) ?_ ?_
    rotate_left
    · intro w'
      go_simp
      with_reducible rfl
    rotate_left
    · simp only [Act.put, List.setIfInBounds_toArray, List.set_cons_zero, List.set_cons_succ, i64_w, i32_w, er]
      rfl
    refine pure_ (i := 19) (N := some 2) (v := ?_) (a' := ?_) #[true, true, true, true, true, true, true, true, true, true, true, true, true, true, true, true, true, true, true, true] rfl rfl (by kernel_rfl) (fun _ _ _ h => h) (Or.inl ⟨by rfl, ?_⟩) ?_ ?_
    rotate_left
    · intro w'
      go_simp
      with_reducible rfl
    rotate_left
    · simp only [Act.put, List.setIfInBounds_toArray, List.set_cons_zero, List.set_cons_succ, i64_w, i32_w, er]
      rfl
    refine done_ (by kernel_rfl) ?_
    go_wp2
    go_ret
    exact ⟨rfl, Y17_2⟩
theorem at_law (s : S) (A : Option Addr) (n c0 : Nat) (zs : List Int) (cur : Cur) (kind : Int) (held : Bool) (w : World) (h : RowOf w A n c0 zs) : Calls Try.prog 10 #[.agg (atc s A n c0 cur kind held)] w fun e w' => e = .returned (.bool true) ∧ Below w.heap.size w w' := by
  obtain ⟨k1, hn, b, o, d1⟩ := dataOf h
  exact at_both s A n c0 b o _ cur kind held hn k1 w d1
end Go.Proofs.Ytnmoiolddfboiaa.SX

/- What the functions of samples tell is what the reference tells. -/
import Derived.Test.YtnmoiolddfboiaaSxO
import Derived.Test.YtnmoiolddfboiaaSxP
import Derived.Test.YtnmoiolddfboiaaSxH
namespace Go.Proofs.Ytnmoiolddfboiaa.SX
open Go.RowKit Go.Proofs.YtnmoiolddfboiaaW.PrintLast Go.Proofs.Ytnmoiolddfboiaa.TX Go.Proofs.Ytnmoiolddfboiaa.Cu
set_option linter.unusedVariables false
set_option linter.unusedSimpArgs false
theorem drewQ {w : World} {A : Option Addr} {n b o : Nat} {xs : Nat → Int} (h : DataAt w A n b o xs) : DataAt w.drew A n b o xs := ⟨h.top, h.low, h.cell⟩
/-- the sample at the head of such a block, loaded in a region that draws its order -/
theorem exec_load_askQ {oi : Oper} {a : Act} {w : World} (x : Operand) (ho : oi.op = .load 24 x) (g : Nat) (hx : a.eval x = .pointer (some ⟨g, 0, none⟩)) (q : Q) (s : S) (A : Option Addr) (n c : Nat) (hg : w.heap[g]? = some (.cells (q.cs s A n c) 28 (0, 0))) :
    (execOp a.eval oi).run Try.prog w = .ok (.value (.agg (s.cs A n c))) w := by
  have hc : w.rangeAt g 0 (s.cs A n c).toList := by
    intro j v hj
    rw [Nat.zero_add, bkCell hg j]
    have hl : j < 13 := by
      have := (List.getElem?_eq_some_iff.1 hj).1
      simpa [S.cs] using this
    have e : ∀ j, j < 13 → (q.cs s A n c)[j]? = (s.cs A n c).toList[j]? := by
      intro j hj
      rcases (by omega : j = 0 ∨ j = 1 ∨ j = 2 ∨ j = 3 ∨ j = 4 ∨ j = 5 ∨ j = 6 ∨ j = 7 ∨ j = 8 ∨ j = 9 ∨ j = 10 ∨ j = 11 ∨ j = 12) with rfl | rfl | rfl | rfl | rfl | rfl | rfl | rfl | rfl | rfl | rfl | rfl | rfl <;> rfl
    rw [e j hl]
    exact hj
  have := run_loadVar_mid (P := Try.prog) w g 0 24 (s.cs A n c).toList _ hc Try.underlying24 rfl (by simpa using S.i24 s A n c)
  unfold execOp
  simp only [ho, hx, Instr.loadAt, Instr.sureAddr, Sem.run_bind, Sem.run_pure, Result.andThen_ok, this, Array.toArray_toList]
/-- the cursor in it -/
theorem exec_load_askCurQ {oi : Oper} {a : Act} {w : World} (x : Operand) (ho : oi.op = .load 26 x) (g : Nat) (hx : a.eval x = .pointer (some ⟨g, 13, none⟩)) (q : Q) (s : S) (A : Option Addr) (n c : Nat) (hg : w.heap[g]? = some (.cells (q.cs s A n c) 28 (0, 0))) :
    (execOp a.eval oi).run Try.prog w = .ok (.value (.agg (Cur.cs q.cur))) w := by
  have hc : w.rangeAt g 13 (Cur.cs q.cur).toList := by
    intro j v hj
    rw [bkCell hg (13 + j)]
    have hl : j < 4 := by
      have := (List.getElem?_eq_some_iff.1 hj).1
      simpa [Cur.cs] using this
    have e : ∀ j, j < 4 → (q.cs s A n c)[13 + j]? = (Cur.cs q.cur).toList[j]? := by
      intro j hj
      rcases (by omega : j = 0 ∨ j = 1 ∨ j = 2 ∨ j = 3) with rfl | rfl | rfl | rfl <;> rfl
    rw [e j hl]
    exact hj
  have := run_loadVar_mid (P := Try.prog) w g 13 26 (Cur.cs q.cur).toList _ hc Try.underlying26 rfl (by simpa using Cur.i26 q.cur)
  unfold execOp
  simp only [ho, hx, Instr.loadAt, Instr.sureAddr, Sem.run_bind, Sem.run_pure, Result.andThen_ok, this, Array.toArray_toList]
theorem cpData {w : World} {g n : Nat} {xs : Nat → Int} (h : w.heap[g]? = some (.cells (rw_ (cpF xs n) (n + 1)).toArray 3 (0, 0))) : DataAt w (some ⟨g, 0, none⟩) n g 0 xs := (rowData h (by omega)).congr fun i hi => by unfold cpF; rw [if_pos hi]
theorem bkN {w : World} {g : Nat} {o : Obj} (h : w.heap[g]? = some o) (m : Nat) : (w.drewN m).heap[g]? = some o := by rw [World.heap_drewN]; exact h
theorem dataN {w : World} {A : Option Addr} {n b o : Nat} {xs : Nat → Int} (h : DataAt w A n b o xs) (m : Nat) : DataAt (w.drewN m) A n b o xs := h.later (bdN (Below.refl _ _) m)
set_option maxHeartbeats 32000000 in
set_option maxRecDepth 100000 in
theorem tells_any (q : Q) (s : S) (A : Option Addr) (n c0 b o : Nat) (xs : Nat → Int) (ho : -9223372036854775808 ≤ q.off ∧ q.off ≤ 9223372036854775807) (hn : n ≤ 20000000000000) (hc0 : n ≤ c0) (w : World) (hA : DataAt w A n b o xs) : Calls Try.prog 7 #[.agg (q.cs s A n c0)] w fun e w' => e = .returned (.bool true) ∧ Below w.heap.size w w' := by
  have B0 : Below w.heap.size w (w.alloc (Obj.cells (q.cs s A n c0) 28)) := (Below.refl _ _).alloc (Nat.le_refl _) _
  have P0 := Lib.hid (show (w.alloc (Obj.cells (q.cs s A n c0) 28)).heap[w.heap.size]? = some (.cells (q.cs s A n c0) 28 (0, 0)) from heap_alloc_new w _)
  have D0 := Lib.hid (hA.later B0)
  obtain ⟨v, hv⟩ : ∃ v, vS s n xs = v := ⟨_, rfl⟩
  obtain ⟨k, ga, gb, hk⟩ : ∃ k ga gb, appA s n xs q.he = (k, ga, gb) := ⟨_, _, _, rfl⟩
  obtain ⟨C, hC⟩ : ∃ C, beginA s n xs q.off q.ba = C := ⟨_, rfl⟩
  obtain ⟨M, er, hM⟩ : ∃ M er, moveA s n xs q.cur q.st q.he = (M, er) := ⟨_, _, rfl⟩
  obtain ⟨tp, ht⟩ : ∃ tp, tapA s n xs q.cur q.kk q.he = tp := ⟨_, rfl⟩
  have VQ := Lib.hid (show ∀ (A' : Option Addr) (c' b' o' : Nat) (W : World), n ≤ c' → DataAt W A' n b' o' xs → Calls Try.prog 15 #[.agg (s.cs A' n c')] W fun e w' => e = .returned (.bool v) ∧ Below W.heap.size W w' from fun A' c' b' o' W hc h => by
    have := valid_any s A' n c' b' o' xs (by omega) hc W h
    rwa [hv] at this)
  have RVQ := Lib.hid (show ∀ (A' : Option Addr) (c' b' o' : Nat) (W : World), n ≤ c' → DataAt W A' n b' o' xs → Calls Try.prog 25 #[.agg (s.cs A' n c')] W fun e w' => e = .returned (.bool v) ∧ Below W.heap.size W w' from fun A' c' b' o' W hc h => by
    have := rvalid_any s A' n c' b' o' xs (by omega) hc W h
    rwa [hv] at this)
  have AQ := Lib.hid (show ∀ (A' : Option Addr) (c' b' o' : Nat) (W : World), n ≤ c' → DataAt W A' n b' o' xs → Calls Try.prog 20 #[.agg (s.cs A' n c'), .bool q.he] W fun e w' => e = .returned (.tuple #[iv k, iv ga, iv gb]) ∧ Below W.heap.size W w' from fun A' c' b' o' W hc h => by
    have := sapplies_any s A' n c' b' o' xs q.he (by omega) hc W h
    rwa [hk] at this)
  have RAQ := Lib.hid (show ∀ (A' : Option Addr) (c' b' o' : Nat) (W : World), n ≤ c' → DataAt W A' n b' o' xs → Calls Try.prog 24 #[.agg (s.cs A' n c'), .bool q.he] W fun e w' => e = .returned (.tuple #[iv k, iv ga, iv gb]) ∧ Below W.heap.size W w' from fun A' c' b' o' W hc h => by
    have := rapplies_any s A' n c' b' o' xs q.he (by omega) hc W h
    rwa [hk] at this)
  have BQ := Lib.hid (show ∀ (A' : Option Addr) (c' b' o' : Nat) (W : World), n ≤ c' → DataAt W A' n b' o' xs → Calls Try.prog 17 #[.agg (s.cs A' n c'), iv q.off, .bool q.ba] W fun e w' => e = .returned (.agg (Cur.cs C)) ∧ Below W.heap.size W w' from fun A' c' b' o' W hc h => by
    have := sbegin_any s A' n c' b' o' xs q.off q.ba ho (by omega) hc W h
    rwa [hC] at this)
  have RBQ := Lib.hid (show ∀ (A' : Option Addr) (c' b' o' : Nat) (W : World), n ≤ c' → DataAt W A' n b' o' xs → Calls Try.prog 26 #[.agg (s.cs A' n c'), iv q.off, .bool q.ba] W fun e w' => e = .returned (.agg (Cur.cs C)) ∧ Below W.heap.size W w' from fun A' c' b' o' W hc h => by
    have := rbegin_any s A' n c' b' o' xs q.off q.ba ho (by omega) hc W h
    rwa [hC] at this)
  have MQ := Lib.hid (show ∀ (A' : Option Addr) (c' b' o' : Nat) (W : World), n ≤ c' → DataAt W A' n b' o' xs → Calls Try.prog 18 #[.agg (s.cs A' n c'), .agg (Cur.cs q.cur), iv q.st, .bool q.he] W fun e w' => e = .returned (.tuple #[.agg (Cur.cs M), iv er]) ∧ Below W.heap.size W w' from fun A' c' b' o' W hc h => by
    have := smove_any s A' n c' b' o' xs q.cur q.st q.he (by omega) hc W h
    rwa [hM] at this)
  have RMQ := Lib.hid (show ∀ (A' : Option Addr) (c' b' o' : Nat) (W : World), n ≤ c' → DataAt W A' n b' o' xs → Calls Try.prog 19 #[.agg (s.cs A' n c'), .agg (Cur.cs q.cur), iv q.st, .bool q.he] W fun e w' => e = .returned (.tuple #[.agg (Cur.cs M), iv er]) ∧ Below W.heap.size W w' from fun A' c' b' o' W hc h => by
    have := rmove_any s A' n c' b' o' xs q.cur q.st q.he (by omega) hc W h
    rwa [hM] at this)
  have TQ := Lib.hid (show ∀ (A' : Option Addr) (c' b' o' : Nat) (W : World), n ≤ c' → DataAt W A' n b' o' xs → Calls Try.prog 22 #[.agg (s.cs A' n c'), .agg (Cur.cs q.cur), iv q.kk, .bool q.he] W fun e w' => e = .returned (iv tp) ∧ Below W.heap.size W w' from fun A' c' b' o' W hc h => by
    have := stap_any s A' n c' b' o' xs q.cur q.kk q.he (by omega) hc W h
    rwa [ht] at this)
  have RTQ := Lib.hid (show ∀ (A' : Option Addr) (c' b' o' : Nat) (W : World), n ≤ c' → DataAt W A' n b' o' xs → Calls Try.prog 27 #[.agg (s.cs A' n c'), .agg (Cur.cs q.cur), iv q.kk, .bool q.he] W fun e w' => e = .returned (iv tp) ∧ Below W.heap.size W w' from fun A' c' b' o' W hc h => by
    have := rtap_any s A' n c' b' o' xs q.cur q.kk q.he (by omega) hc W h
    rwa [ht] at this)
  have CQ := Lib.hid fun (W : World) (h : DataAt W A n b o xs) => copy_any s A n c0 b o xs hn W h
  have UQ := Lib.hid fun (W : World) (g : Nat) (h : DataAt W A n b o xs) (hg : W.heap[g]? = some (.cells (rw_ (cpF xs n) (n + 1)).toArray 3 (0, 0))) => untouched_yes s A n c0 b o g xs hn W h hg
  have UNQ := Lib.hid (show ∀ (A' : Option Addr) (c' b' o' : Nat) (W : World), n ≤ c' → DataAt W A' n b' o' xs → Calls Try.prog 21 #[.agg (s.cs A' n c'), iv q.nn, .bool q.he] W fun e w' => ∃ A2 c2 b2 o2, e = .returned (.tuple #[.slice A2 (unrN s n xs q.nn) c2, iv (unrE s n xs q.nn)]) ∧ DataAt w' A2 (unrN s n xs q.nn) b2 o2 (unrF s n xs q.he) ∧ Below W.heap.size W w' from fun A' c' b' o' W hc h => (sunroll_any s A' n c' b' o' xs q.nn q.he (by omega) hc W h).mono fun e w' ⟨A2, c2, b2, o2, h1, h2, h3, h4⟩ => ⟨A2, c2, b2, o2, h1, h2, h4⟩)
  have RUNQ := Lib.hid (show ∀ (A' : Option Addr) (c' b' o' : Nat) (W : World), n ≤ c' → DataAt W A' n b' o' xs → Calls Try.prog 29 #[.agg (s.cs A' n c'), iv q.nn, .bool q.he] W fun e w' => ∃ A2 c2 b2 o2, e = .returned (.tuple #[.slice A2 (unrN s n xs q.nn) c2, iv (unrE s n xs q.nn)]) ∧ DataAt w' A2 (unrN s n xs q.nn) b2 o2 (unrF s n xs q.he) ∧ Below W.heap.size W w' from fun A' c' b' o' W hc h => runroll_any s A' n c' b' o' xs q.nn q.he (by omega) hc W h)
  have HN := Lib.hid hn
  have HC0 := Lib.hid hc0
  clear hv hk hC hM ht
  clear hA
  go_enter Try.func7, Try.ntmps7
  go_upto_region 2 with (first
    | (refine wpLoadAsk rfl _ rfl (w.heap.size) rfl q s A n c0 P0.out ?_)
    | (go_at_call 23; (with_reducible refine (CQ.out _ D0.out).mono ?_); rintro e w1 ⟨g, rfl, hg1, hgl, hb1⟩; have P1 := Lib.hid (bkBelow P0.out hb1); have D1 := Lib.hid (D0.out.later hb1); have B1 := bdT B0 B0.size hb1; have G1 := Lib.hid (hg1); have E1 := Lib.hid (cpData hg1); clear P0 D0)
    | (refine wpList_store_row rfl 24 (.tmp 3) (.tmp 20) rfl (w1.heap.size) (s.cs (some ⟨g, 0, none⟩) n (n + 1)) rfl rfl 24 _ (heap_alloc_new w1 (Obj.cells #[Value.string ⟨#[]⟩, Value.slice none 0 0, iv 0, iv 0, iv 0, iv 0, iv 0, iv 0, iv 0, iv 0, iv 0, iv 0, iv 0] 24)) (S.i24 _ _ _ _) (S.sz S.zero s none _ 0 0 _ _) (S.one _ _ _ _) ?_; have K2 := below_setRow ((Below.refl w1.heap.size w1).alloc (Nat.le_refl _) (Obj.cells #[Value.string ⟨#[]⟩, Value.slice none 0 0, iv 0, iv 0, iv 0, iv 0, iv 0, iv 0, iv 0, iv 0, iv 0, iv 0, iv 0] 24)) (g := w1.heap.size) (Nat.le_refl _) (s.cs (some ⟨g, 0, none⟩) n (n + 1)); have P2 := Lib.hid (bkBelow P1.out K2); have D2 := Lib.hid (D1.out.later K2); have G2 := Lib.hid (bkBelow G1.out K2); have E2 := Lib.hid (E1.out.later K2); have B2 := bdT B1 B1.size K2; have T2 := Lib.hid (setRow_heap _ _ _ (s.cs (some ⟨g, 0, none⟩) n (n + 1)) _ _ (heap_alloc_new w1 (Obj.cells #[Value.string ⟨#[]⟩, Value.slice none 0 0, iv 0, iv 0, iv 0, iv 0, iv 0, iv 0, iv 0, iv 0, iv 0, iv 0, iv 0] 24))); clear P1 D1 G1 E1))
  have z26 := (bkCell P2.out 26).trans (show _ = some (.bool q.he) from rfl)
  go_upto_region 3 with (first
    | (refine wpList_load_row rfl 24 (.tmp 3) rfl (w1.heap.size) rfl 24 _ (0, 0) _ T2.out Try.underlying24 rfl (S.i24 _ _ _ _) ?_)
    | (go_at_call 20; (with_reducible refine (AQ.out _ _ _ _ _ (Nat.le_succ n) E2.out).mono ?_); rintro e w3 ⟨rfl, hb3⟩; have P3 := Lib.hid (bkBelow P2.out hb3); have D3 := Lib.hid (D2.out.later hb3); have G3 := Lib.hid (bkBelow G2.out hb3); have E3 := Lib.hid (E2.out.later hb3); have T3 := Lib.hid (bkBelow T2.out hb3); have B3 := bdT B2 B2.size hb3; clear P2 D2 G2 E2 T2))
  clear z26
  have z26 := (bkCell P3.out 26).trans (show _ = some (.bool q.he) from rfl)
  go_upto_region 4 with (first
    | (refine wpLoadAsk rfl _ rfl (w.heap.size) rfl q s A n c0 P3.out ?_)
    | (go_at_call 24; (with_reducible refine (RAQ.out _ _ _ _ _ HC0.out D3.out).mono ?_); rintro e w4 ⟨rfl, hb4⟩; have P4 := Lib.hid (bkBelow P3.out hb4); have D4 := Lib.hid (D3.out.later hb4); have G4 := Lib.hid (bkBelow G3.out hb4); have E4 := Lib.hid (E3.out.later hb4); have T4 := Lib.hid (bkBelow T3.out hb4); have B4 := bdT B3 B3.size hb4; clear P3 D3 G3 E3 T3))
  clear z26
  have ev : (v != v) = false := by simp
  have ek : (k != k) = false := by simp
  have ea : (ga != ga) = false := by simp
  have eb : (gb != gb) = false := by simp
  have eqx := eqCur C
  refine start_ (n := 37) (S := fun w' => w'.heap[w.heap.size]? = some (.cells (q.cs s A n c0) 28 (0, 0)) ∧ w'.heap[w1.heap.size]? = some (.cells (s.cs (some ⟨g, 0, none⟩) n (n + 1)) 24 (0, 0)) ∧ w'.heap[g]? = some (.cells (rw_ (cpF xs n) (n + 1)).toArray 3 (0, 0)) ∧ DataAt w' A n b o xs ∧ DataAt w' (some ⟨g, 0, none⟩) n g 0 xs ∧ Below w.heap.size w w') (ds := []) #[false, false, false, false, false, false, false, false, false, false, false, false, false, false, false, false, false, false, false, false, false, false, false, false, false, false, false, false, false, false, false, false, false, false, false, false, false] (by kernel_rfl) rfl rfl ⟨P4.out, T4.out, G4.out, drewQ D4.out, drewQ E4.out, B4.drew⟩ (fun hHeld => ?_)
  refine pure_ (i := 2) (N := some 40) (v := ?_) (a' := ?_) #[false, false, true, false, false, false, false, false, false, false, false, false, false, false, false, false, false, false, false, false, false, false, false, false, false, false, false, false, false, false, false, false, false, false, false, false, false] rfl rfl (by kernel_rfl) (fun _ _ _ h => h) (Or.inl ⟨by rfl, ?_⟩) ?_ ?_
  rotate_left
  · intro w'
    go_simp
    with_reducible rfl
  rotate_left
  · simp only [Act.put, List.setIfInBounds_toArray, List.set_cons_zero, List.set_cons_succ, i64_w, i32_w, ev, ek, ea, eb]
    rfl
  refine take_ (i := 0) (N := some 38) (v := ?_) (a' := ?_) #[true, false, true, false, false, false, false, false, false, false, false, false, false, false, false, false, false, false, false, false, false, false, false, false, false, false, false, false, false, false, false, false, false, false, false, false, false] rfl rfl (by kernel_rfl) (fun _ _ _ h => h) (Or.inl ⟨by rfl, ?_⟩) hHeld ?_ ?_
  rotate_left
  · rintro w' ⟨s0, s1, s2, s3, s4, s5⟩
    refine exec_load_row 24 (.tmp 3) ?_ (w1.heap.size) ?_ 24 _ _ _ s1 Try.underlying24 rfl (S.i24 _ _ _ _) <;> rfl
  rotate_left
  · simp only [Act.put, List.setIfInBounds_toArray, List.set_cons_zero, List.set_cons_succ, i64_w, i32_w, ev, ek, ea, eb]
    rfl
  refine take_ (i := 3) (N := some 41) (v := ?_) (a' := ?_) #[true, false, true, true, false, false, false, false, false, false, false, false, false, false, false, false, false, false, false, false, false, false, false, false, false, false, false, false, false, false, false, false, false, false, false, false, false] rfl rfl (by kernel_rfl) (fun _ _ _ h => h) (Or.inl ⟨by rfl, ?_⟩) hHeld ?_ ?_
  rotate_left
  · rintro w' ⟨s0, s1, s2, s3, s4, s5⟩
    refine exec_load_askQ (.tmp 40) ?_ (w.heap.size) ?_ q s A n c0 s0 <;> rfl
  rotate_left
  · simp only [Act.put, List.setIfInBounds_toArray, List.set_cons_zero, List.set_cons_succ, i64_w, i32_w, ev, ek, ea, eb]
    rfl
  refine one_ (i := 1) (N := some 39) #[true, true, true, true, false, false, false, false, false, false, false, false, false, false, false, false, false, false, false, false, false, false, false, false, false, false, false, false, false, false, false, false, false, false, false, false, false] rfl rfl (by kernel_rfl) (by decide) (fun K hK => ?_)
  obtain ⟨s0, s1, s2, s3, s4, s5⟩ := hHeld
  refine goes_ Try.func15 (by kernel_rfl) rfl #[.agg (s.cs (some ⟨g, 0, none⟩) n (n + 1))] (by rfl) rfl rfl (by simp only [List.map_toArray, List.map_cons, List.map_nil]; rfl) ?_
  with_reducible refine (VQ.out _ _ _ _ _ (Nat.le_succ n) s4).mono ?_
  rintro e wx1 ⟨rfl, hb⟩
  refine ⟨_, rfl, ?_⟩
  have Y1_0 := Lib.hid (bkBelow s0 hb)
  have Y1_1 := Lib.hid (bkBelow s1 hb)
  have Y1_2 := Lib.hid (bkBelow s2 hb)
  have Y1_3 := Lib.hid (s3.later hb)
  have Y1_4 := Lib.hid (s4.later hb)
  have BY1 := bdT s5 s5.size hb
  clear hb s0 s1 s2 s3 s4 s5
  refine hK.out _ _ ⟨Y1_0.out, Y1_1.out, Y1_2.out, Y1_3.out, Y1_4.out, BY1⟩ (fun hHeld => ?_)
  clear hK K
  refine norm_ (a' := ?_) ?_ ?_
  rotate_left
  · show Act.put _ (some 39) _ = _
    simp only [Act.put, List.setIfInBounds_toArray, List.set_cons_zero, List.set_cons_succ, i64_w, i32_w, ev, ek, ea, eb]
    rfl
  refine one_ (i := 4) (N := some 42) #[true, true, true, true, true, false, false, false, false, false, false, false, false, false, false, false, false, false, false, false, false, false, false, false, false, false, false, false, false, false, false, false, false, false, false, false, false] rfl rfl (by kernel_rfl) (by decide) (fun K hK => ?_)
  obtain ⟨s0, s1, s2, s3, s4, s5⟩ := hHeld
  refine goes_ Try.func25 (by kernel_rfl) rfl #[.agg (s.cs A n c0)] (by rfl) rfl rfl (by simp only [List.map_toArray, List.map_cons, List.map_nil]; rfl) ?_
  with_reducible refine (RVQ.out _ _ _ _ _ HC0.out s3).mono ?_
  rintro e wx4 ⟨rfl, hb⟩
  refine ⟨_, rfl, ?_⟩
  have Y4_0 := Lib.hid (bkBelow s0 hb)
  have Y4_1 := Lib.hid (bkBelow s1 hb)
  have Y4_2 := Lib.hid (bkBelow s2 hb)
  have Y4_3 := Lib.hid (s3.later hb)
  have Y4_4 := Lib.hid (s4.later hb)
  have BY4 := bdT s5 s5.size hb
  clear hb s0 s1 s2 s3 s4 s5
  refine hK.out _ _ ⟨Y4_0.out, Y4_1.out, Y4_2.out, Y4_3.out, Y4_4.out, BY4⟩ (fun hHeld => ?_)
  clear hK K
  refine norm_ (a' := ?_) ?_ ?_
  rotate_left
  · show Act.put _ (some 42) _ = _
    simp only [Act.put, List.setIfInBounds_toArray, List.set_cons_zero, List.set_cons_succ, i64_w, i32_w, ev, ek, ea, eb]
    rfl
  refine pure_ (i := 5) (N := some 43) (v := ?_) (a' := ?_) #[true, true, true, true, true, true, false, false, false, false, false, false, false, false, false, false, false, false, false, false, false, false, false, false, false, false, false, false, false, false, false, false, false, false, false, false, false] rfl rfl (by kernel_rfl) (fun _ _ _ h => h) (Or.inl ⟨by rfl, ?_⟩) ?_ ?_
  rotate_left
  · intro w'
    go_simp
    with_reducible rfl
  rotate_left
  · simp only [Act.put, List.setIfInBounds_toArray, List.set_cons_zero, List.set_cons_succ, i64_w, i32_w, ev, ek, ea, eb]
    rfl
  refine pure_ (i := 6) (N := some 44) (v := ?_) (a' := ?_) #[true, true, true, true, true, true, true, false, false, false, false, false, false, false, false, false, false, false, false, false, false, false, false, false, false, false, false, false, false, false, false, false, false, false, false, false, false] rfl rfl (by kernel_rfl) (fun _ _ _ h => h) (Or.inl ⟨by rfl, ?_⟩) ?_ ?_
  rotate_left
  · intro w'
    go_simp
    with_reducible rfl
  rotate_left
  · simp only [Act.put, List.setIfInBounds_toArray, List.set_cons_zero, List.set_cons_succ, i64_w, i32_w, ev, ek, ea, eb]
    rfl
  refine pure_ (i := 7) (N := some 45) (v := ?_) (a' := ?_) #[true, true, true, true, true, true, true, true, false, false, false, false, false, false, false, false, false, false, false, false, false, false, false, false, false, false, false, false, false, false, false, false, false, false, false, false, false] rfl rfl (by kernel_rfl) (fun _ _ _ h => h) (Or.inl ⟨by rfl, ?_⟩) ?_ ?_
  rotate_left
  · intro w'
    go_simp
    with_reducible rfl
  rotate_left
  · simp only [Act.put, List.setIfInBounds_toArray, List.set_cons_zero, List.set_cons_succ, i64_w, i32_w, ev, ek, ea, eb]
    rfl
  refine pure_ (i := 8) (N := some 46) (v := ?_) (a' := ?_) #[true, true, true, true, true, true, true, true, true, false, false, false, false, false, false, false, false, false, false, false, false, false, false, false, false, false, false, false, false, false, false, false, false, false, false, false, false] rfl rfl (by kernel_rfl) (fun _ _ _ h => h) (Or.inl ⟨by rfl, ?_⟩) ?_ ?_
  rotate_left
  · intro w'
    go_simp
    with_reducible rfl
  rotate_left
  · simp only [Act.put, List.setIfInBounds_toArray, List.set_cons_zero, List.set_cons_succ, i64_w, i32_w, ev, ek, ea, eb]
    rfl
  refine pure_ (i := 9) (N := some 47) (v := ?_) (a' := ?_) #[true, true, true, true, true, true, true, true, true, true, false, false, false, false, false, false, false, false, false, false, false, false, false, false, false, false, false, false, false, false, false, false, false, false, false, false, false] rfl rfl (by kernel_rfl) (fun _ _ _ h => h) (Or.inl ⟨by rfl, ?_⟩) ?_ ?_
  rotate_left
  · intro w'
    go_simp
    with_reducible rfl
  rotate_left
  · simp only [Act.put, List.setIfInBounds_toArray, List.set_cons_zero, List.set_cons_succ, i64_w, i32_w, ev, ek, ea, eb]
    rfl
  refine pure_ (i := 10) (N := some 48) (v := ?_) (a' := ?_) #[true, true, true, true, true, true, true, true, true, true, true, false, false, false, false, false, false, false, false, false, false, false, false, false, false, false, false, false, false, false, false, false, false, false, false, false, false] rfl rfl (by kernel_rfl) (fun _ _ _ h => h) (Or.inl ⟨by rfl, ?_⟩) ?_ ?_
  rotate_left
  · intro w'
    go_simp
    with_reducible rfl
  rotate_left
  · simp only [Act.put, List.setIfInBounds_toArray, List.set_cons_zero, List.set_cons_succ, i64_w, i32_w, ev, ek, ea, eb]
    rfl
  refine pure_ (i := 11) (N := some 49) (v := ?_) (a' := ?_) #[true, true, true, true, true, true, true, true, true, true, true, true, false, false, false, false, false, false, false, false, false, false, false, false, false, false, false, false, false, false, false, false, false, false, false, false, false] rfl rfl (by kernel_rfl) (fun _ _ _ h => h) (Or.inl ⟨by rfl, ?_⟩) ?_ ?_
  rotate_left
  · intro w'
    go_simp
    with_reducible rfl
  rotate_left
  · simp only [Act.put, List.setIfInBounds_toArray, List.set_cons_zero, List.set_cons_succ, i64_w, i32_w, ev, ek, ea, eb]
    rfl
  refine pure_ (i := 12) (N := some 50) (v := ?_) (a' := ?_) #[true, true, true, true, true, true, true, true, true, true, true, true, true, false, false, false, false, false, false, false, false, false, false, false, false, false, false, false, false, false, false, false, false, false, false, false, false] rfl rfl (by kernel_rfl) (fun _ _ _ h => h) (Or.inl ⟨by rfl, ?_⟩) ?_ ?_
  rotate_left
  · intro w'
    go_simp
    with_reducible rfl
  rotate_left
  · simp only [Act.put, List.setIfInBounds_toArray, List.set_cons_zero, List.set_cons_succ, i64_w, i32_w, ev, ek, ea, eb]
    rfl
  refine pure_ (i := 13) (N := some 51) (v := ?_) (a' := ?_) #[true, true, true, true, true, true, true, true, true, true, true, true, true, true, false, false, false, false, false, false, false, false, false, false, false, false, false, false, false, false, false, false, false, false, false, false, false] rfl rfl (by kernel_rfl) (fun _ _ _ h => h) (Or.inl ⟨by rfl, ?_⟩) ?_ ?_
  rotate_left
  · intro w'
    go_simp
    with_reducible rfl
  rotate_left
  · simp only [Act.put, List.setIfInBounds_toArray, List.set_cons_zero, List.set_cons_succ, i64_w, i32_w, ev, ek, ea, eb]
    rfl
  refine pure_ (i := 14) (N := some 52) (v := ?_) (a' := ?_) #[true, true, true, true, true, true, true, true, true, true, true, true, true, true, true, false, false, false, false, false, false, false, false, false, false, false, false, false, false, false, false, false, false, false, false, false, false] rfl rfl (by kernel_rfl) (fun _ _ _ h => h) (Or.inl ⟨by rfl, ?_⟩) ?_ ?_
  rotate_left
  · intro w'
    go_simp
    with_reducible rfl
  rotate_left
  · simp only [Act.put, List.setIfInBounds_toArray, List.set_cons_zero, List.set_cons_succ, i64_w, i32_w, ev, ek, ea, eb]
    rfl
  refine pure_ (i := 15) (N := some 53) (v := ?_) (a' := ?_) #[true, true, true, true, true, true, true, true, true, true, true, true, true, true, true, true, false, false, false, false, false, false, false, false, false, false, false, false, false, false, false, false, false, false, false, false, false] rfl rfl (by kernel_rfl) (fun _ _ _ h => h) (Or.inl ⟨by rfl, ?_⟩) ?_ ?_
  rotate_left
  · intro w'
    go_simp
    with_reducible rfl
  rotate_left
  · simp only [Act.put, List.setIfInBounds_toArray, List.set_cons_zero, List.set_cons_succ, i64_w, i32_w, ev, ek, ea, eb]
    rfl
  refine pure_ (i := 16) (N := some 54) (v := ?_) (a' := ?_) #[true, true, true, true, true, true, true, true, true, true, true, true, true, true, true, true, true, false, false, false, false, false, false, false, false, false, false, false, false, false, false, false, false, false, false, false, false] rfl rfl (by kernel_rfl) (fun _ _ _ h => h) (Or.inl ⟨by rfl, ?_⟩) ?_ ?_
  rotate_left
  · intro w'
    go_simp
    with_reducible rfl
  rotate_left
  · simp only [Act.put, List.setIfInBounds_toArray, List.set_cons_zero, List.set_cons_succ, i64_w, i32_w, ev, ek, ea, eb]
    rfl
  refine pure_ (i := 17) (N := some 55) (v := ?_) (a' := ?_) #[true, true, true, true, true, true, true, true, true, true, true, true, true, true, true, true, true, true, false, false, false, false, false, false, false, false, false, false, false, false, false, false, false, false, false, false, false] rfl rfl (by kernel_rfl) (fun _ _ _ h => h) (Or.inl ⟨by rfl, ?_⟩) ?_ ?_
  rotate_left
  · intro w'
    go_simp
    with_reducible rfl
  rotate_left
  · simp only [Act.put, List.setIfInBounds_toArray, List.set_cons_zero, List.set_cons_succ, i64_w, i32_w, ev, ek, ea, eb]
    rfl
  refine pure_ (i := 18) (N := some 56) (v := ?_) (a' := ?_) #[true, true, true, true, true, true, true, true, true, true, true, true, true, true, true, true, true, true, true, false, false, false, false, false, false, false, false, false, false, false, false, false, false, false, false, false, false] rfl rfl (by kernel_rfl) (fun _ _ _ h => h) (Or.inl ⟨by rfl, ?_⟩) ?_ ?_
  rotate_left
  · intro w'
    go_simp
    with_reducible rfl
  rotate_left
  · simp only [Act.put, List.setIfInBounds_toArray, List.set_cons_zero, List.set_cons_succ, i64_w, i32_w, ev, ek, ea, eb]
    rfl
  refine pure_ (i := 19) (N := some 57) (v := ?_) (a' := ?_) #[true, true, true, true, true, true, true, true, true, true, true, true, true, true, true, true, true, true, true, true, false, false, false, false, false, false, false, false, false, false, false, false, false, false, false, false, false] rfl rfl (by kernel_rfl) (fun _ _ _ h => h) (Or.inl ⟨by rfl, ?_⟩) ?_ ?_
  rotate_left
  · intro w'
    go_simp
    with_reducible rfl
  rotate_left
  · simp only [Act.put, List.setIfInBounds_toArray, List.set_cons_zero, List.set_cons_succ, i64_w, i32_w, ev, ek, ea, eb]
    rfl
  refine pure_ (i := 20) (N := some 58) (v := ?_) (a' := ?_) #[true, true, true, true, true, true, true, true, true, true, true, true, true, true, true, true, true, true, true, true, true, false, false, false, false, false, false, false, false, false, false, false, false, false, false, false, false] rfl rfl (by kernel_rfl) (fun _ _ _ h => h) (Or.inl ⟨by rfl, ?_⟩) ?_ ?_
  rotate_left
  · intro w'
    go_simp
    with_reducible rfl
  rotate_left
  · simp only [Act.put, List.setIfInBounds_toArray, List.set_cons_zero, List.set_cons_succ, i64_w, i32_w, ev, ek, ea, eb]
    rfl
  refine pure_ (i := 21) (N := some 59) (v := ?_) (a' := ?_) #[true, true, true, true, true, true, true, true, true, true, true, true, true, true, true, true, true, true, true, true, true, true, false, false, false, false, false, false, false, false, false, false, false, false, false, false, false] rfl rfl (by kernel_rfl) (fun _ _ _ h => h) (Or.inl ⟨by rfl, ?_⟩) ?_ ?_
  rotate_left
  · intro w'
    go_simp
    with_reducible rfl
  rotate_left
  · simp only [Act.put, List.setIfInBounds_toArray, List.set_cons_zero, List.set_cons_succ, i64_w, i32_w, ev, ek, ea, eb]
    rfl
  refine pure_ (i := 23) (N := some 61) (v := ?_) (a' := ?_) #[true, true, true, true, true, true, true, true, true, true, true, true, true, true, true, true, true, true, true, true, true, true, false, true, false, false, false, false, false, false, false, false, false, false, false, false, false] rfl rfl (by kernel_rfl) (fun _ _ _ h => h) (Or.inl ⟨by rfl, ?_⟩) ?_ ?_
  rotate_left
  · intro w'
    go_simp
    with_reducible rfl
  rotate_left
  · simp only [Act.put, List.setIfInBounds_toArray, List.set_cons_zero, List.set_cons_succ, i64_w, i32_w, ev, ek, ea, eb]
    rfl
  refine pure_ (i := 25) (N := some 63) (v := ?_) (a' := ?_) #[true, true, true, true, true, true, true, true, true, true, true, true, true, true, true, true, true, true, true, true, true, true, false, true, false, true, false, false, false, false, false, false, false, false, false, false, false] rfl rfl (by kernel_rfl) (fun _ _ _ h => h) (Or.inl ⟨by rfl, ?_⟩) ?_ ?_
  rotate_left
  · intro w'
    go_simp
    with_reducible rfl
  rotate_left
  · simp only [Act.put, List.setIfInBounds_toArray, List.set_cons_zero, List.set_cons_succ, i64_w, i32_w, ev, ek, ea, eb]
    rfl
  refine pure_ (i := 28) (N := some 66) (v := ?_) (a' := ?_) #[true, true, true, true, true, true, true, true, true, true, true, true, true, true, true, true, true, true, true, true, true, true, false, true, false, true, false, false, true, false, false, false, false, false, false, false, false] rfl rfl (by kernel_rfl) (fun _ _ _ h => h) (Or.inl ⟨by rfl, ?_⟩) ?_ ?_
  rotate_left
  · intro w'
    go_simp
    with_reducible rfl
  rotate_left
  · simp only [Act.put, List.setIfInBounds_toArray, List.set_cons_zero, List.set_cons_succ, i64_w, i32_w, ev, ek, ea, eb]
    rfl
  refine pure_ (i := 30) (N := some 68) (v := ?_) (a' := ?_) #[true, true, true, true, true, true, true, true, true, true, true, true, true, true, true, true, true, true, true, true, true, true, false, true, false, true, false, false, true, false, true, false, false, false, false, false, false] rfl rfl (by kernel_rfl) (fun _ _ _ h => h) (Or.inl ⟨by rfl, ?_⟩) ?_ ?_
  rotate_left
  · intro w'
    go_simp
    with_reducible rfl
  rotate_left
  · simp only [Act.put, List.setIfInBounds_toArray, List.set_cons_zero, List.set_cons_succ, i64_w, i32_w, ev, ek, ea, eb]
    rfl
  refine pure_ (i := 32) (N := some 70) (v := ?_) (a' := ?_) #[true, true, true, true, true, true, true, true, true, true, true, true, true, true, true, true, true, true, true, true, true, true, false, true, false, true, false, false, true, false, true, false, true, false, false, false, false] rfl rfl (by kernel_rfl) (fun _ _ _ h => h) (Or.inl ⟨by rfl, ?_⟩) ?_ ?_
  rotate_left
  · intro w'
    go_simp
    with_reducible rfl
  rotate_left
  · simp only [Act.put, List.setIfInBounds_toArray, List.set_cons_zero, List.set_cons_succ, i64_w, i32_w, ev, ek, ea, eb]
    rfl
  refine take_ (i := 22) (N := some 60) (v := ?_) (a' := ?_) #[true, true, true, true, true, true, true, true, true, true, true, true, true, true, true, true, true, true, true, true, true, true, true, true, false, true, false, false, true, false, true, false, true, false, false, false, false] rfl rfl (by kernel_rfl) (fun _ _ _ h => h) (Or.inl ⟨by rfl, ?_⟩) hHeld ?_ ?_
  rotate_left
  · rintro w' ⟨s0, s1, s2, s3, s4, s5⟩
    refine exec_load_row 24 (.tmp 3) ?_ (w1.heap.size) ?_ 24 _ _ _ s1 Try.underlying24 rfl (S.i24 _ _ _ _) <;> rfl
  rotate_left
  · simp only [Act.put, List.setIfInBounds_toArray, List.set_cons_zero, List.set_cons_succ, i64_w, i32_w, ev, ek, ea, eb]
    rfl
  refine take_ (i := 24) (N := some 62) (v := ?_) (a' := ?_) #[true, true, true, true, true, true, true, true, true, true, true, true, true, true, true, true, true, true, true, true, true, true, true, true, true, true, false, false, true, false, true, false, true, false, false, false, false] rfl rfl (by kernel_rfl) (fun _ _ _ h => h) (Or.inl ⟨by rfl, ?_⟩) hHeld ?_ ?_
  rotate_left
  · rintro w' ⟨s0, s1, s2, s3, s4, s5⟩
    have zc := (bkCell s0 20).trans (show _ = some (iv q.off) from rfl)
    clear s0 s1 s2 s3 s4 s5
    go_simp
    with_reducible rfl
  rotate_left
  · simp only [Act.put, List.setIfInBounds_toArray, List.set_cons_zero, List.set_cons_succ, i64_w, i32_w, ev, ek, ea, eb]
    rfl
  refine take_ (i := 26) (N := some 64) (v := ?_) (a' := ?_) #[true, true, true, true, true, true, true, true, true, true, true, true, true, true, true, true, true, true, true, true, true, true, true, true, true, true, true, false, true, false, true, false, true, false, false, false, false] rfl rfl (by kernel_rfl) (fun _ _ _ h => h) (Or.inl ⟨by rfl, ?_⟩) hHeld ?_ ?_
  rotate_left
  · rintro w' ⟨s0, s1, s2, s3, s4, s5⟩
    have zc := (bkCell s0 27).trans (show _ = some (.bool q.ba) from rfl)
    clear s0 s1 s2 s3 s4 s5
    go_simp
    with_reducible rfl
  rotate_left
  · simp only [Act.put, List.setIfInBounds_toArray, List.set_cons_zero, List.set_cons_succ, i64_w, i32_w, ev, ek, ea, eb]
    rfl
  refine take_ (i := 29) (N := some 67) (v := ?_) (a' := ?_) #[true, true, true, true, true, true, true, true, true, true, true, true, true, true, true, true, true, true, true, true, true, true, true, true, true, true, true, false, true, true, true, false, true, false, false, false, false] rfl rfl (by kernel_rfl) (fun _ _ _ h => h) (Or.inl ⟨by rfl, ?_⟩) hHeld ?_ ?_
  rotate_left
  · rintro w' ⟨s0, s1, s2, s3, s4, s5⟩
    refine exec_load_askQ (.tmp 66) ?_ (w.heap.size) ?_ q s A n c0 s0 <;> rfl
  rotate_left
  · simp only [Act.put, List.setIfInBounds_toArray, List.set_cons_zero, List.set_cons_succ, i64_w, i32_w, ev, ek, ea, eb]
    rfl
  refine take_ (i := 31) (N := some 69) (v := ?_) (a' := ?_) #[true, true, true, true, true, true, true, true, true, true, true, true, true, true, true, true, true, true, true, true, true, true, true, true, true, true, true, false, true, true, true, true, true, false, false, false, false] rfl rfl (by kernel_rfl) (fun _ _ _ h => h) (Or.inl ⟨by rfl, ?_⟩) hHeld ?_ ?_
  rotate_left
  · rintro w' ⟨s0, s1, s2, s3, s4, s5⟩
    have zc := (bkCell s0 20).trans (show _ = some (iv q.off) from rfl)
    clear s0 s1 s2 s3 s4 s5
    go_simp
    with_reducible rfl
  rotate_left
  · simp only [Act.put, List.setIfInBounds_toArray, List.set_cons_zero, List.set_cons_succ, i64_w, i32_w, ev, ek, ea, eb]
    rfl
  refine take_ (i := 33) (N := some 71) (v := ?_) (a' := ?_) #[true, true, true, true, true, true, true, true, true, true, true, true, true, true, true, true, true, true, true, true, true, true, true, true, true, true, true, false, true, true, true, true, true, true, false, false, false] rfl rfl (by kernel_rfl) (fun _ _ _ h => h) (Or.inl ⟨by rfl, ?_⟩) hHeld ?_ ?_
  rotate_left
  · rintro w' ⟨s0, s1, s2, s3, s4, s5⟩
    have zc := (bkCell s0 27).trans (show _ = some (.bool q.ba) from rfl)
    clear s0 s1 s2 s3 s4 s5
    go_simp
    with_reducible rfl
  rotate_left
  · simp only [Act.put, List.setIfInBounds_toArray, List.set_cons_zero, List.set_cons_succ, i64_w, i32_w, ev, ek, ea, eb]
    rfl
  refine one_ (i := 27) (N := some 65) #[true, true, true, true, true, true, true, true, true, true, true, true, true, true, true, true, true, true, true, true, true, true, true, true, true, true, true, true, true, true, true, true, true, true, false, false, false] rfl rfl (by kernel_rfl) (by decide) (fun K hK => ?_)
  obtain ⟨s0, s1, s2, s3, s4, s5⟩ := hHeld
  refine goes_ Try.func17 (by kernel_rfl) rfl #[.agg (s.cs (some ⟨g, 0, none⟩) n (n + 1)), iv q.off, .bool q.ba] (by rfl) rfl rfl (by simp only [List.map_toArray, List.map_cons, List.map_nil]; rfl) ?_
  with_reducible refine (BQ.out _ _ _ _ _ (Nat.le_succ n) s4).mono ?_
  rintro e wx27 ⟨rfl, hb⟩
  refine ⟨_, rfl, ?_⟩
  have Y27_0 := Lib.hid (bkBelow s0 hb)
  have Y27_1 := Lib.hid (bkBelow s1 hb)
  have Y27_2 := Lib.hid (bkBelow s2 hb)
  have Y27_3 := Lib.hid (s3.later hb)
  have Y27_4 := Lib.hid (s4.later hb)
  have BY27 := bdT s5 s5.size hb
  clear hb s0 s1 s2 s3 s4 s5
  refine hK.out _ _ ⟨Y27_0.out, Y27_1.out, Y27_2.out, Y27_3.out, Y27_4.out, BY27⟩ (fun hHeld => ?_)
  clear hK K
  refine norm_ (a' := ?_) ?_ ?_
  rotate_left
  · show Act.put _ (some 65) _ = _
    simp only [Act.put, List.setIfInBounds_toArray, List.set_cons_zero, List.set_cons_succ, i64_w, i32_w, ev, ek, ea, eb]
    rfl
  refine one_ (i := 34) (N := some 72) #[true, true, true, true, true, true, true, true, true, true, true, true, true, true, true, true, true, true, true, true, true, true, true, true, true, true, true, true, true, true, true, true, true, true, true, false, false] rfl rfl (by kernel_rfl) (by decide) (fun K hK => ?_)
  obtain ⟨s0, s1, s2, s3, s4, s5⟩ := hHeld
  refine goes_ Try.func26 (by kernel_rfl) rfl #[.agg (s.cs A n c0), iv q.off, .bool q.ba] (by rfl) rfl rfl (by simp only [List.map_toArray, List.map_cons, List.map_nil]; rfl) ?_
  with_reducible refine (RBQ.out _ _ _ _ _ HC0.out s3).mono ?_
  rintro e wx34 ⟨rfl, hb⟩
  refine ⟨_, rfl, ?_⟩
  have Y34_0 := Lib.hid (bkBelow s0 hb)
  have Y34_1 := Lib.hid (bkBelow s1 hb)
  have Y34_2 := Lib.hid (bkBelow s2 hb)
  have Y34_3 := Lib.hid (s3.later hb)
  have Y34_4 := Lib.hid (s4.later hb)
  have BY34 := bdT s5 s5.size hb
  clear hb s0 s1 s2 s3 s4 s5
  refine hK.out _ _ ⟨Y34_0.out, Y34_1.out, Y34_2.out, Y34_3.out, Y34_4.out, BY34⟩ (fun hHeld => ?_)
  clear hK K
  refine norm_ (a' := ?_) ?_ ?_
  rotate_left
  · show Act.put _ (some 72) _ = _
    simp only [Act.put, List.setIfInBounds_toArray, List.set_cons_zero, List.set_cons_succ, i64_w, i32_w, ev, ek, ea, eb]
    rfl
  refine pure_ (i := 35) (N := some 73) (v := ?_) (a' := ?_) #[true, true, true, true, true, true, true, true, true, true, true, true, true, true, true, true, true, true, true, true, true, true, true, true, true, true, true, true, true, true, true, true, true, true, true, true, false] rfl rfl (by kernel_rfl) (fun _ _ _ h => h) (Or.inl ⟨by rfl, ?_⟩) ?_ ?_
  rotate_left
  · intro w'
    go_simp
    with_reducible rfl
  rotate_left
  · simp only [Act.put, List.setIfInBounds_toArray, List.set_cons_zero, List.set_cons_succ, i64_w, i32_w, ev, ek, ea, eb]
    rfl
  refine pure_ (i := 36) (N := some 74) (v := ?_) (a' := ?_) #[true, true, true, true, true, true, true, true, true, true, true, true, true, true, true, true, true, true, true, true, true, true, true, true, true, true, true, true, true, true, true, true, true, true, true, true, true] rfl rfl (by kernel_rfl) (fun _ _ _ h => h) (Or.inl ⟨by rfl, ?_⟩) ?_ ?_
  rotate_left
  · intro w'
    go_simp
    with_reducible rfl
  rotate_left
  · simp only [Act.put, List.setIfInBounds_toArray, List.set_cons_zero, List.set_cons_succ, i64_w, i32_w, ev, ek, ea, eb]
    rfl
  refine done_ (by kernel_rfl) ?_
  clear ev ek ea eb eqx P4 T4 G4 D4 E4 B4
  have P40 := Lib.hid Y34_0.out
  have T40 := Lib.hid Y34_1.out
  have G40 := Lib.hid Y34_2.out
  have D40 := Lib.hid Y34_3.out
  have E40 := Lib.hid Y34_4.out
  have B40 := BY34
  have z17 := (bkCell P40.out 17).trans (show _ = some (iv q.st) from rfl)
  have z26 := (bkCell P40.out 26).trans (show _ = some (.bool q.he) from rfl)
  go_upto_region 7 with (first
    | (refine wpList_load_row rfl 24 (.tmp 3) rfl (w1.heap.size) rfl 24 _ (0, 0) _ T40.out Try.underlying24 rfl (S.i24 _ _ _ _) ?_)
    | (refine wpLoadAskCur rfl _ rfl (w.heap.size) rfl q s A n c0 P40.out ?_)
    | (go_at_call 18; (with_reducible refine (MQ.out _ _ _ _ _ (Nat.le_succ n) E40.out).mono ?_); rintro e w41 ⟨rfl, hb41⟩; have P41 := Lib.hid (bkBelow P40.out hb41); have T41 := Lib.hid (bkBelow T40.out hb41); have G41 := Lib.hid (bkBelow G40.out hb41); have D41 := Lib.hid (D40.out.later hb41); have E41 := Lib.hid (E40.out.later hb41); have B41 := bdT B40 B40.size hb41; clear P40 T40 G40 D40 E40)
    | (refine wpList_store_row rfl 26 (.tmp 10) (.tmp 84) rfl (w41.heap.size) (Cur.cs M) rfl rfl 26 _ (heap_alloc_new w41 (Obj.cells #[iv 0, iv 0, .bool false, .bool false] 26)) (Cur.i26 _) (Cur.sz Cur.zero _) (Cur.one _) ?_; have K42 := below_setRow ((Below.refl w41.heap.size w41).alloc (Nat.le_refl _) (Obj.cells #[iv 0, iv 0, .bool false, .bool false] 26)) (g := w41.heap.size) (Nat.le_refl _) (Cur.cs M); have P42 := Lib.hid (bkBelow P41.out K42); have T42 := Lib.hid (bkBelow T41.out K42); have G42 := Lib.hid (bkBelow G41.out K42); have D42 := Lib.hid (D41.out.later K42); have E42 := Lib.hid (E41.out.later K42); have B42 := bdT B41 B41.size K42; have M42 := Lib.hid (setRow_heap _ _ _ (Cur.cs M) _ _ (heap_alloc_new w41 (Obj.cells #[iv 0, iv 0, .bool false, .bool false] 26))); clear P41 T41 G41 D41 E41))
  clear z17 z26
  have z17 := (bkCell P42.out 17).trans (show _ = some (iv q.st) from rfl)
  have z26 := (bkCell P42.out 26).trans (show _ = some (.bool q.he) from rfl)
  go_upto_region 8 with (first
    | (refine wpLoadAsk rfl _ rfl (w.heap.size) rfl q s A n c0 P42.out ?_)
    | (refine wpLoadAskCur rfl _ rfl (w.heap.size) rfl q s A n c0 P42.out ?_)
    | (go_at_call 19; (with_reducible refine (RMQ.out _ _ _ _ _ HC0.out D42.out).mono ?_); rintro e w43 ⟨rfl, hb43⟩; have P43 := Lib.hid (bkBelow P42.out hb43); have T43 := Lib.hid (bkBelow T42.out hb43); have G43 := Lib.hid (bkBelow G42.out hb43); have D43 := Lib.hid (D42.out.later hb43); have E43 := Lib.hid (E42.out.later hb43); have M43 := Lib.hid (bkBelow M42.out hb43); have B43 := bdT B42 B42.size hb43; clear P42 T42 G42 D42 E42 M42)
    | (refine wpList_store_row rfl 26 (.tmp 12) (.tmp 96) rfl (w43.heap.size) (Cur.cs M) rfl rfl 26 _ (heap_alloc_new w43 (Obj.cells #[iv 0, iv 0, .bool false, .bool false] 26)) (Cur.i26 _) (Cur.sz Cur.zero _) (Cur.one _) ?_; have K44 := below_setRow ((Below.refl w43.heap.size w43).alloc (Nat.le_refl _) (Obj.cells #[iv 0, iv 0, .bool false, .bool false] 26)) (g := w43.heap.size) (Nat.le_refl _) (Cur.cs M); have P44 := Lib.hid (bkBelow P43.out K44); have T44 := Lib.hid (bkBelow T43.out K44); have G44 := Lib.hid (bkBelow G43.out K44); have D44 := Lib.hid (D43.out.later K44); have E44 := Lib.hid (E43.out.later K44); have M44 := Lib.hid (bkBelow M43.out K44); have B44 := bdT B43 B43.size K44; have R44 := Lib.hid (setRow_heap _ _ _ (Cur.cs M) _ _ (heap_alloc_new w43 (Obj.cells #[iv 0, iv 0, .bool false, .bool false] 26))); clear P43 T43 G43 D43 E43 M43))
  clear z17 z26
  have ee : (er != er) = false := by simp
  have et : (tp != tp) = false := by simp
  have eqx := eqCur M
  refine start_ (n := 35) (S := fun w' => w'.heap[w.heap.size]? = some (.cells (q.cs s A n c0) 28 (0, 0)) ∧ w'.heap[w1.heap.size]? = some (.cells (s.cs (some ⟨g, 0, none⟩) n (n + 1)) 24 (0, 0)) ∧ w'.heap[g]? = some (.cells (rw_ (cpF xs n) (n + 1)).toArray 3 (0, 0)) ∧ DataAt w' A n b o xs ∧ DataAt w' (some ⟨g, 0, none⟩) n g 0 xs ∧ Below w.heap.size w w' ∧ w'.heap[w41.heap.size]? = some (.cells (Cur.cs M) 26 (0, 0)) ∧ w'.heap[w43.heap.size]? = some (.cells (Cur.cs M) 26 (0, 0))) (ds := []) #[false, false, false, false, false, false, false, false, false, false, false, false, false, false, false, false, false, false, false, false, false, false, false, false, false, false, false, false, false, false, false, false, false, false, false] (by kernel_rfl) rfl rfl ⟨P44.out, T44.out, G44.out, drewQ D44.out, drewQ E44.out, B44.drew, M44.out, R44.out⟩ (fun hHeld => ?_)
  refine take_ (i := 0) (N := some 98) (v := ?_) (a' := ?_) #[true, false, false, false, false, false, false, false, false, false, false, false, false, false, false, false, false, false, false, false, false, false, false, false, false, false, false, false, false, false, false, false, false, false, false] rfl rfl (by kernel_rfl) (fun _ _ _ h => h) (Or.inl ⟨by rfl, ?_⟩) hHeld ?_ ?_
  rotate_left
  · rintro w' ⟨s0, s1, s2, s3, s4, s5, s6, s7⟩
    refine exec_load_row 26 (.tmp 10) ?_ (w41.heap.size) ?_ 26 _ _ _ s6 Try.underlying26 rfl (Cur.i26 _) <;> rfl
  rotate_left
  · simp only [Act.put, List.setIfInBounds_toArray, List.set_cons_zero, List.set_cons_succ, i64_w, i32_w, ee, et]
    rfl
  refine take_ (i := 1) (N := some 99) (v := ?_) (a' := ?_) #[true, true, false, false, false, false, false, false, false, false, false, false, false, false, false, false, false, false, false, false, false, false, false, false, false, false, false, false, false, false, false, false, false, false, false] rfl rfl (by kernel_rfl) (fun _ _ _ h => h) (Or.inl ⟨by rfl, ?_⟩) hHeld ?_ ?_
  rotate_left
  · rintro w' ⟨s0, s1, s2, s3, s4, s5, s6, s7⟩
    refine exec_load_row 26 (.tmp 12) ?_ (w43.heap.size) ?_ 26 _ _ _ s7 Try.underlying26 rfl (Cur.i26 _) <;> rfl
  rotate_left
  · simp only [Act.put, List.setIfInBounds_toArray, List.set_cons_zero, List.set_cons_succ, i64_w, i32_w, ee, et]
    rfl
  refine pure_ (i := 2) (N := some 100) (v := ?_) (a' := ?_) #[true, true, true, false, false, false, false, false, false, false, false, false, false, false, false, false, false, false, false, false, false, false, false, false, false, false, false, false, false, false, false, false, false, false, false] rfl rfl (by kernel_rfl) (fun _ _ _ h => h) (Or.inl ⟨by rfl, ?_⟩) ?_ ?_
  rotate_left
  · intro w'
    go_simp
    with_reducible rfl
  rotate_left
  · simp only [Act.put, List.setIfInBounds_toArray, List.set_cons_zero, List.set_cons_succ, i64_w, i32_w, ee, et]
    rfl
  refine pure_ (i := 3) (N := some 101) (v := ?_) (a' := ?_) #[true, true, true, true, false, false, false, false, false, false, false, false, false, false, false, false, false, false, false, false, false, false, false, false, false, false, false, false, false, false, false, false, false, false, false] rfl rfl (by kernel_rfl) (fun _ _ _ h => h) (Or.inl ⟨by rfl, ?_⟩) ?_ ?_
  rotate_left
  · intro w'
    go_simp
    with_reducible rfl
  rotate_left
  · simp only [Act.put, List.setIfInBounds_toArray, List.set_cons_zero, List.set_cons_succ, i64_w, i32_w, ee, et]
    rfl
  refine pure_ (i := 4) (N := some 102) (v := ?_) (a' := ?_) #[true, true, true, true, true, false, false, false, false, false, false, false, false, false, false, false, false, false, false, false, false, false, false, false, false, false, false, false, false, false, false, false, false, false, false] rfl rfl (by kernel_rfl) (fun _ _ _ h => h) (Or.inl ⟨by rfl, ?_⟩) ?_ ?_
  rotate_left
  · intro w'
    go_simp
    with_reducible rfl
  rotate_left
  · simp only [Act.put, List.setIfInBounds_toArray, List.set_cons_zero, List.set_cons_succ, i64_w, i32_w, ee, et]
    rfl
  refine pure_ (i := 5) (N := some 103) (v := ?_) (a' := ?_) #[true, true, true, true, true, true, false, false, false, false, false, false, false, false, false, false, false, false, false, false, false, false, false, false, false, false, false, false, false, false, false, false, false, false, false] rfl rfl (by kernel_rfl) (fun _ _ _ h => h) (Or.inl ⟨by rfl, ?_⟩) ?_ ?_
  rotate_left
  · intro w'
    go_simp
    with_reducible rfl
  rotate_left
  · simp only [Act.put, List.setIfInBounds_toArray, List.set_cons_zero, List.set_cons_succ, i64_w, i32_w, ee, et]
    rfl
  refine pure_ (i := 6) (N := some 104) (v := ?_) (a' := ?_) #[true, true, true, true, true, true, true, false, false, false, false, false, false, false, false, false, false, false, false, false, false, false, false, false, false, false, false, false, false, false, false, false, false, false, false] rfl rfl (by kernel_rfl) (fun _ _ _ h => h) (Or.inl ⟨by rfl, ?_⟩) ?_ ?_
  rotate_left
  · intro w'
    go_simp
    with_reducible rfl
  rotate_left
  · simp only [Act.put, List.setIfInBounds_toArray, List.set_cons_zero, List.set_cons_succ, i64_w, i32_w, ee, et]
    rfl
  refine pure_ (i := 7) (N := some 105) (v := ?_) (a' := ?_) #[true, true, true, true, true, true, true, true, false, false, false, false, false, false, false, false, false, false, false, false, false, false, false, false, false, false, false, false, false, false, false, false, false, false, false] rfl rfl (by kernel_rfl) (fun _ _ _ h => h) (Or.inl ⟨by rfl, ?_⟩) ?_ ?_
  rotate_left
  · intro w'
    go_simp
    with_reducible rfl
  rotate_left
  · simp only [Act.put, List.setIfInBounds_toArray, List.set_cons_zero, List.set_cons_succ, i64_w, i32_w, ee, et]
    rfl
  refine pure_ (i := 8) (N := some 106) (v := ?_) (a' := ?_) #[true, true, true, true, true, true, true, true, true, false, false, false, false, false, false, false, false, false, false, false, false, false, false, false, false, false, false, false, false, false, false, false, false, false, false] rfl rfl (by kernel_rfl) (fun _ _ _ h => h) (Or.inl ⟨by rfl, ?_⟩) ?_ ?_
  rotate_left
  · intro w'
    go_simp
    with_reducible rfl
  rotate_left
  · simp only [Act.put, List.setIfInBounds_toArray, List.set_cons_zero, List.set_cons_succ, i64_w, i32_w, ee, et]
    rfl
  refine pure_ (i := 10) (N := some 108) (v := ?_) (a' := ?_) #[true, true, true, true, true, true, true, true, true, false, true, false, false, false, false, false, false, false, false, false, false, false, false, false, false, false, false, false, false, false, false, false, false, false, false] rfl rfl (by kernel_rfl) (fun _ _ _ h => h) (Or.inl ⟨by rfl, ?_⟩) ?_ ?_
  rotate_left
  · intro w'
    go_simp
    with_reducible rfl
  rotate_left
  · simp only [Act.put, List.setIfInBounds_toArray, List.set_cons_zero, List.set_cons_succ, i64_w, i32_w, ee, et]
    rfl
  refine pure_ (i := 12) (N := some 110) (v := ?_) (a' := ?_) #[true, true, true, true, true, true, true, true, true, false, true, false, true, false, false, false, false, false, false, false, false, false, false, false, false, false, false, false, false, false, false, false, false, false, false] rfl rfl (by kernel_rfl) (fun _ _ _ h => h) (Or.inl ⟨by rfl, ?_⟩) ?_ ?_
  rotate_left
  · intro w'
    go_simp
    with_reducible rfl
  rotate_left
  · simp only [Act.put, List.setIfInBounds_toArray, List.set_cons_zero, List.set_cons_succ, i64_w, i32_w, ee, et]
    rfl
  refine pure_ (i := 14) (N := some 112) (v := ?_) (a' := ?_) #[true, true, true, true, true, true, true, true, true, false, true, false, true, false, true, false, false, false, false, false, false, false, false, false, false, false, false, false, false, false, false, false, false, false, false] rfl rfl (by kernel_rfl) (fun _ _ _ h => h) (Or.inl ⟨by rfl, ?_⟩) ?_ ?_
  rotate_left
  · intro w'
    go_simp
    with_reducible rfl
  rotate_left
  · simp only [Act.put, List.setIfInBounds_toArray, List.set_cons_zero, List.set_cons_succ, i64_w, i32_w, ee, et]
    rfl
  refine pure_ (i := 17) (N := some 115) (v := ?_) (a' := ?_) #[true, true, true, true, true, true, true, true, true, false, true, false, true, false, true, false, false, true, false, false, false, false, false, false, false, false, false, false, false, false, false, false, false, false, false] rfl rfl (by kernel_rfl) (fun _ _ _ h => h) (Or.inl ⟨by rfl, ?_⟩) ?_ ?_
  rotate_left
  · intro w'
    go_simp
    with_reducible rfl
  rotate_left
  · simp only [Act.put, List.setIfInBounds_toArray, List.set_cons_zero, List.set_cons_succ, i64_w, i32_w, ee, et]
    rfl
  refine pure_ (i := 19) (N := some 117) (v := ?_) (a' := ?_) #[true, true, true, true, true, true, true, true, true, false, true, false, true, false, true, false, false, true, false, true, false, false, false, false, false, false, false, false, false, false, false, false, false, false, false] rfl rfl (by kernel_rfl) (fun _ _ _ h => h) (Or.inl ⟨by rfl, ?_⟩) ?_ ?_
  rotate_left
  · intro w'
    go_simp
    with_reducible rfl
  rotate_left
  · simp only [Act.put, List.setIfInBounds_toArray, List.set_cons_zero, List.set_cons_succ, i64_w, i32_w, ee, et]
    rfl
  refine pure_ (i := 21) (N := some 119) (v := ?_) (a' := ?_) #[true, true, true, true, true, true, true, true, true, false, true, false, true, false, true, false, false, true, false, true, false, true, false, false, false, false, false, false, false, false, false, false, false, false, false] rfl rfl (by kernel_rfl) (fun _ _ _ h => h) (Or.inl ⟨by rfl, ?_⟩) ?_ ?_
  rotate_left
  · intro w'
    go_simp
    with_reducible rfl
  rotate_left
  · simp only [Act.put, List.setIfInBounds_toArray, List.set_cons_zero, List.set_cons_succ, i64_w, i32_w, ee, et]
    rfl
  refine pure_ (i := 23) (N := some 121) (v := ?_) (a' := ?_) #[true, true, true, true, true, true, true, true, true, false, true, false, true, false, true, false, false, true, false, true, false, true, false, true, false, false, false, false, false, false, false, false, false, false, false] rfl rfl (by kernel_rfl) (fun _ _ _ h => h) (Or.inl ⟨by rfl, ?_⟩) ?_ ?_
  rotate_left
  · intro w'
    go_simp
    with_reducible rfl
  rotate_left
  · simp only [Act.put, List.setIfInBounds_toArray, List.set_cons_zero, List.set_cons_succ, i64_w, i32_w, ee, et]
    rfl
  refine take_ (i := 9) (N := some 107) (v := ?_) (a' := ?_) #[true, true, true, true, true, true, true, true, true, true, true, false, true, false, true, false, false, true, false, true, false, true, false, true, false, false, false, false, false, false, false, false, false, false, false] rfl rfl (by kernel_rfl) (fun _ _ _ h => h) (Or.inl ⟨by rfl, ?_⟩) hHeld ?_ ?_
  rotate_left
  · rintro w' ⟨s0, s1, s2, s3, s4, s5, s6, s7⟩
    refine exec_load_row 24 (.tmp 3) ?_ (w1.heap.size) ?_ 24 _ _ _ s1 Try.underlying24 rfl (S.i24 _ _ _ _) <;> rfl
  rotate_left
  · simp only [Act.put, List.setIfInBounds_toArray, List.set_cons_zero, List.set_cons_succ, i64_w, i32_w, ee, et]
    rfl
  refine take_ (i := 11) (N := some 109) (v := ?_) (a' := ?_) #[true, true, true, true, true, true, true, true, true, true, true, true, true, false, true, false, false, true, false, true, false, true, false, true, false, false, false, false, false, false, false, false, false, false, false] rfl rfl (by kernel_rfl) (fun _ _ _ h => h) (Or.inl ⟨by rfl, ?_⟩) hHeld ?_ ?_
  rotate_left
  · rintro w' ⟨s0, s1, s2, s3, s4, s5, s6, s7⟩
    refine exec_load_askCurQ (.tmp 108) ?_ (w.heap.size) ?_ q s A n c0 s0 <;> rfl
  rotate_left
  · simp only [Act.put, List.setIfInBounds_toArray, List.set_cons_zero, List.set_cons_succ, i64_w, i32_w, ee, et]
    rfl
  refine take_ (i := 13) (N := some 111) (v := ?_) (a' := ?_) #[true, true, true, true, true, true, true, true, true, true, true, true, true, true, true, false, false, true, false, true, false, true, false, true, false, false, false, false, false, false, false, false, false, false, false] rfl rfl (by kernel_rfl) (fun _ _ _ h => h) (Or.inl ⟨by rfl, ?_⟩) hHeld ?_ ?_
  rotate_left
  · rintro w' ⟨s0, s1, s2, s3, s4, s5, s6, s7⟩
    have zc := (bkCell s0 18).trans (show _ = some (iv q.kk) from rfl)
    clear s0 s1 s2 s3 s4 s5 s6 s7
    go_simp
    with_reducible rfl
  rotate_left
  · simp only [Act.put, List.setIfInBounds_toArray, List.set_cons_zero, List.set_cons_succ, i64_w, i32_w, ee, et]
    rfl
  refine take_ (i := 15) (N := some 113) (v := ?_) (a' := ?_) #[true, true, true, true, true, true, true, true, true, true, true, true, true, true, true, true, false, true, false, true, false, true, false, true, false, false, false, false, false, false, false, false, false, false, false] rfl rfl (by kernel_rfl) (fun _ _ _ h => h) (Or.inl ⟨by rfl, ?_⟩) hHeld ?_ ?_
  rotate_left
  · rintro w' ⟨s0, s1, s2, s3, s4, s5, s6, s7⟩
    have zc := (bkCell s0 26).trans (show _ = some (.bool q.he) from rfl)
    clear s0 s1 s2 s3 s4 s5 s6 s7
    go_simp
    with_reducible rfl
  rotate_left
  · simp only [Act.put, List.setIfInBounds_toArray, List.set_cons_zero, List.set_cons_succ, i64_w, i32_w, ee, et]
    rfl
  refine take_ (i := 18) (N := some 116) (v := ?_) (a' := ?_) #[true, true, true, true, true, true, true, true, true, true, true, true, true, true, true, true, false, true, true, true, false, true, false, true, false, false, false, false, false, false, false, false, false, false, false] rfl rfl (by kernel_rfl) (fun _ _ _ h => h) (Or.inl ⟨by rfl, ?_⟩) hHeld ?_ ?_
  rotate_left
  · rintro w' ⟨s0, s1, s2, s3, s4, s5, s6, s7⟩
    refine exec_load_askQ (.tmp 115) ?_ (w.heap.size) ?_ q s A n c0 s0 <;> rfl
  rotate_left
  · simp only [Act.put, List.setIfInBounds_toArray, List.set_cons_zero, List.set_cons_succ, i64_w, i32_w, ee, et]
    rfl
  refine take_ (i := 20) (N := some 118) (v := ?_) (a' := ?_) #[true, true, true, true, true, true, true, true, true, true, true, true, true, true, true, true, false, true, true, true, true, true, false, true, false, false, false, false, false, false, false, false, false, false, false] rfl rfl (by kernel_rfl) (fun _ _ _ h => h) (Or.inl ⟨by rfl, ?_⟩) hHeld ?_ ?_
  rotate_left
  · rintro w' ⟨s0, s1, s2, s3, s4, s5, s6, s7⟩
    refine exec_load_askCurQ (.tmp 117) ?_ (w.heap.size) ?_ q s A n c0 s0 <;> rfl
  rotate_left
  · simp only [Act.put, List.setIfInBounds_toArray, List.set_cons_zero, List.set_cons_succ, i64_w, i32_w, ee, et]
    rfl
  refine take_ (i := 22) (N := some 120) (v := ?_) (a' := ?_) #[true, true, true, true, true, true, true, true, true, true, true, true, true, true, true, true, false, true, true, true, true, true, true, true, false, false, false, false, false, false, false, false, false, false, false] rfl rfl (by kernel_rfl) (fun _ _ _ h => h) (Or.inl ⟨by rfl, ?_⟩) hHeld ?_ ?_
  rotate_left
  · rintro w' ⟨s0, s1, s2, s3, s4, s5, s6, s7⟩
    have zc := (bkCell s0 18).trans (show _ = some (iv q.kk) from rfl)
    clear s0 s1 s2 s3 s4 s5 s6 s7
    go_simp
    with_reducible rfl
  rotate_left
  · simp only [Act.put, List.setIfInBounds_toArray, List.set_cons_zero, List.set_cons_succ, i64_w, i32_w, ee, et]
    rfl
  refine take_ (i := 24) (N := some 122) (v := ?_) (a' := ?_) #[true, true, true, true, true, true, true, true, true, true, true, true, true, true, true, true, false, true, true, true, true, true, true, true, true, false, false, false, false, false, false, false, false, false, false] rfl rfl (by kernel_rfl) (fun _ _ _ h => h) (Or.inl ⟨by rfl, ?_⟩) hHeld ?_ ?_
  rotate_left
  · rintro w' ⟨s0, s1, s2, s3, s4, s5, s6, s7⟩
    have zc := (bkCell s0 26).trans (show _ = some (.bool q.he) from rfl)
    clear s0 s1 s2 s3 s4 s5 s6 s7
    go_simp
    with_reducible rfl
  rotate_left
  · simp only [Act.put, List.setIfInBounds_toArray, List.set_cons_zero, List.set_cons_succ, i64_w, i32_w, ee, et]
    rfl
  refine one_ (i := 16) (N := some 114) #[true, true, true, true, true, true, true, true, true, true, true, true, true, true, true, true, true, true, true, true, true, true, true, true, true, false, false, false, false, false, false, false, false, false, false] rfl rfl (by kernel_rfl) (by decide) (fun K hK => ?_)
  obtain ⟨s0, s1, s2, s3, s4, s5, s6, s7⟩ := hHeld
  refine goes_ Try.func22 (by kernel_rfl) rfl #[.agg (s.cs (some ⟨g, 0, none⟩) n (n + 1)), .agg (Cur.cs q.cur), iv q.kk, .bool q.he] (by rfl) rfl rfl (by simp only [List.map_toArray, List.map_cons, List.map_nil]; rfl) ?_
  with_reducible refine (TQ.out _ _ _ _ _ (Nat.le_succ n) s4).mono ?_
  rintro e wx16 ⟨rfl, hb⟩
  refine ⟨_, rfl, ?_⟩
  have Y16_0 := Lib.hid (bkBelow s0 hb)
  have Y16_1 := Lib.hid (bkBelow s1 hb)
  have Y16_2 := Lib.hid (bkBelow s2 hb)
  have Y16_3 := Lib.hid (s3.later hb)
  have Y16_4 := Lib.hid (s4.later hb)
  have Y16_5 := Lib.hid (bkBelow s6 hb)
  have Y16_6 := Lib.hid (bkBelow s7 hb)
  have BY16 := bdT s5 s5.size hb
  clear hb s0 s1 s2 s3 s4 s5 s6 s7
  refine hK.out _ _ ⟨Y16_0.out, Y16_1.out, Y16_2.out, Y16_3.out, Y16_4.out, BY16, Y16_5.out, Y16_6.out⟩ (fun hHeld => ?_)
  clear hK K
  refine norm_ (a' := ?_) ?_ ?_
  rotate_left
  · show Act.put _ (some 114) _ = _
    simp only [Act.put, List.setIfInBounds_toArray, List.set_cons_zero, List.set_cons_succ, i64_w, i32_w, ee, et]
    rfl
  refine one_ (i := 25) (N := some 123) #[true, true, true, true, true, true, true, true, true, true, true, true, true, true, true, true, true, true, true, true, true, true, true, true, true, true, false, false, false, false, false, false, false, false, false] rfl rfl (by kernel_rfl) (by decide) (fun K hK => ?_)
  obtain ⟨s0, s1, s2, s3, s4, s5, s6, s7⟩ := hHeld
  refine goes_ Try.func27 (by kernel_rfl) rfl #[.agg (s.cs A n c0), .agg (Cur.cs q.cur), iv q.kk, .bool q.he] (by rfl) rfl rfl (by simp only [List.map_toArray, List.map_cons, List.map_nil]; rfl) ?_
  with_reducible refine (RTQ.out _ _ _ _ _ HC0.out s3).mono ?_
  rintro e wx25 ⟨rfl, hb⟩
  refine ⟨_, rfl, ?_⟩
  have Y25_0 := Lib.hid (bkBelow s0 hb)
  have Y25_1 := Lib.hid (bkBelow s1 hb)
  have Y25_2 := Lib.hid (bkBelow s2 hb)
  have Y25_3 := Lib.hid (s3.later hb)
  have Y25_4 := Lib.hid (s4.later hb)
  have Y25_5 := Lib.hid (bkBelow s6 hb)
  have Y25_6 := Lib.hid (bkBelow s7 hb)
  have BY25 := bdT s5 s5.size hb
  clear hb s0 s1 s2 s3 s4 s5 s6 s7
  refine hK.out _ _ ⟨Y25_0.out, Y25_1.out, Y25_2.out, Y25_3.out, Y25_4.out, BY25, Y25_5.out, Y25_6.out⟩ (fun hHeld => ?_)
  clear hK K
  refine norm_ (a' := ?_) ?_ ?_
  rotate_left
  · show Act.put _ (some 123) _ = _
    simp only [Act.put, List.setIfInBounds_toArray, List.set_cons_zero, List.set_cons_succ, i64_w, i32_w, ee, et]
    rfl
  refine pure_ (i := 26) (N := some 124) (v := ?_) (a' := ?_) #[true, true, true, true, true, true, true, true, true, true, true, true, true, true, true, true, true, true, true, true, true, true, true, true, true, true, true, false, false, false, false, false, false, false, false] rfl rfl (by kernel_rfl) (fun _ _ _ h => h) (Or.inl ⟨by rfl, ?_⟩) ?_ ?_
  rotate_left
  · intro w'
    go_simp
    with_reducible rfl
  rotate_left
  · simp only [Act.put, List.setIfInBounds_toArray, List.set_cons_zero, List.set_cons_succ, i64_w, i32_w, ee, et]
    rfl
  refine pure_ (i := 27) (N := some 125) (v := ?_) (a' := ?_) #[true, true, true, true, true, true, true, true, true, true, true, true, true, true, true, true, true, true, true, true, true, true, true, true, true, true, true, true, false, false, false, false, false, false, false] rfl rfl (by kernel_rfl) (fun _ _ _ h => h) (Or.inl ⟨by rfl, ?_⟩) ?_ ?_
  rotate_left
  · intro w'
    go_simp
    with_reducible rfl
  rotate_left
  · simp only [Act.put, List.setIfInBounds_toArray, List.set_cons_zero, List.set_cons_succ, i64_w, i32_w, ee, et]
    rfl
  refine pure_ (i := 28) (N := some 126) (v := ?_) (a' := ?_) #[true, true, true, true, true, true, true, true, true, true, true, true, true, true, true, true, true, true, true, true, true, true, true, true, true, true, true, true, true, false, false, false, false, false, false] rfl rfl (by kernel_rfl) (fun _ _ _ h => h) (Or.inl ⟨by rfl, ?_⟩) ?_ ?_
  rotate_left
  · intro w'
    go_simp
    with_reducible rfl
  rotate_left
  · simp only [Act.put, List.setIfInBounds_toArray, List.set_cons_zero, List.set_cons_succ, i64_w, i32_w, ee, et]
    rfl
  refine pure_ (i := 30) (N := some 128) (v := ?_) (a' := ?_) #[true, true, true, true, true, true, true, true, true, true, true, true, true, true, true, true, true, true, true, true, true, true, true, true, true, true, true, true, true, false, true, false, false, false, false] rfl rfl (by kernel_rfl) (fun _ _ _ h => h) (Or.inl ⟨by rfl, ?_⟩) ?_ ?_
  rotate_left
  · intro w'
    go_simp
    with_reducible rfl
  rotate_left
  · simp only [Act.put, List.setIfInBounds_toArray, List.set_cons_zero, List.set_cons_succ, i64_w, i32_w, ee, et]
    rfl
  refine take_ (i := 29) (N := some 127) (v := ?_) (a' := ?_) #[true, true, true, true, true, true, true, true, true, true, true, true, true, true, true, true, true, true, true, true, true, true, true, true, true, true, true, true, true, true, true, false, false, false, false] rfl rfl (by kernel_rfl) (fun _ _ _ h => h) (Or.inl ⟨by rfl, ?_⟩) hHeld ?_ ?_
  rotate_left
  · rintro w' ⟨s0, s1, s2, s3, s4, s5, s6, s7⟩
    refine exec_load_row 24 (.tmp 3) ?_ (w1.heap.size) ?_ 24 _ _ _ s1 Try.underlying24 rfl (S.i24 _ _ _ _) <;> rfl
  rotate_left
  · simp only [Act.put, List.setIfInBounds_toArray, List.set_cons_zero, List.set_cons_succ, i64_w, i32_w, ee, et]
    rfl
  refine take_ (i := 31) (N := some 129) (v := ?_) (a' := ?_) #[true, true, true, true, true, true, true, true, true, true, true, true, true, true, true, true, true, true, true, true, true, true, true, true, true, true, true, true, true, true, true, true, false, false, false] rfl rfl (by kernel_rfl) (fun _ _ _ h => h) (Or.inl ⟨by rfl, ?_⟩) hHeld ?_ ?_
  rotate_left
  · rintro w' ⟨s0, s1, s2, s3, s4, s5, s6, s7⟩
    refine exec_load_askQ (.tmp 128) ?_ (w.heap.size) ?_ q s A n c0 s0 <;> rfl
  rotate_left
  · simp only [Act.put, List.setIfInBounds_toArray, List.set_cons_zero, List.set_cons_succ, i64_w, i32_w, ee, et]
    rfl
  refine one_ (i := 32) (N := some 130) #[true, true, true, true, true, true, true, true, true, true, true, true, true, true, true, true, true, true, true, true, true, true, true, true, true, true, true, true, true, true, true, true, true, false, false] rfl rfl (by kernel_rfl) (by decide) (fun K hK => ?_)
  obtain ⟨s0, s1, s2, s3, s4, s5, s6, s7⟩ := hHeld
  refine goes_ Try.func28 (by kernel_rfl) rfl #[.agg (s.cs (some ⟨g, 0, none⟩) n (n + 1)), .agg (s.cs A n c0)] (by rfl) rfl rfl (by simp only [List.map_toArray, List.map_cons, List.map_nil]; rfl) ?_
  with_reducible refine (UQ.out _ g s3 s2).mono ?_
  rintro e wx32 ⟨rfl, hb⟩
  refine ⟨_, rfl, ?_⟩
  have Y32_0 := Lib.hid (bkBelow s0 hb)
  have Y32_1 := Lib.hid (bkBelow s1 hb)
  have Y32_2 := Lib.hid (bkBelow s2 hb)
  have Y32_3 := Lib.hid (s3.later hb)
  have Y32_4 := Lib.hid (s4.later hb)
  have Y32_5 := Lib.hid (bkBelow s6 hb)
  have Y32_6 := Lib.hid (bkBelow s7 hb)
  have BY32 := bdT s5 s5.size hb
  clear hb s0 s1 s2 s3 s4 s5 s6 s7
  refine hK.out _ _ ⟨Y32_0.out, Y32_1.out, Y32_2.out, Y32_3.out, Y32_4.out, BY32, Y32_5.out, Y32_6.out⟩ (fun hHeld => ?_)
  clear hK K
  refine norm_ (a' := ?_) ?_ ?_
  rotate_left
  · show Act.put _ (some 130) _ = _
    simp only [Act.put, List.setIfInBounds_toArray, List.set_cons_zero, List.set_cons_succ, i64_w, i32_w, ee, et]
    rfl
  refine pure_ (i := 33) (N := some 131) (v := ?_) (a' := ?_) #[true, true, true, true, true, true, true, true, true, true, true, true, true, true, true, true, true, true, true, true, true, true, true, true, true, true, true, true, true, true, true, true, true, true, false] rfl rfl (by kernel_rfl) (fun _ _ _ h => h) (Or.inl ⟨by rfl, ?_⟩) ?_ ?_
  rotate_left
  · intro w'
    go_simp
    with_reducible rfl
  rotate_left
  · simp only [Act.put, List.setIfInBounds_toArray, List.set_cons_zero, List.set_cons_succ, i64_w, i32_w, ee, et]
    rfl
  refine pure_ (i := 34) (N := some 132) (v := ?_) (a' := ?_) #[true, true, true, true, true, true, true, true, true, true, true, true, true, true, true, true, true, true, true, true, true, true, true, true, true, true, true, true, true, true, true, true, true, true, true] rfl rfl (by kernel_rfl) (fun _ _ _ h => h) (Or.inl ⟨by rfl, ?_⟩) ?_ ?_
  rotate_left
  · intro w'
    go_simp
    with_reducible rfl
  rotate_left
  · simp only [Act.put, List.setIfInBounds_toArray, List.set_cons_zero, List.set_cons_succ, i64_w, i32_w, ee, et]
    rfl
  refine done_ (by kernel_rfl) ?_
  clear ee et eqx P44 T44 G44 D44 E44 B44 M44 R44
  have P60 := Lib.hid Y32_0.out
  have T60 := Lib.hid Y32_1.out
  have G60 := Lib.hid Y32_2.out
  have D60 := Lib.hid Y32_3.out
  have E60 := Lib.hid Y32_4.out
  have B60 := BY32
  have z19 := (bkCell P60.out 19).trans (show _ = some (iv q.nn) from rfl)
  by_cases hbig : 2000 < q.nn ∧ q.nn ≤ 200000
  · have d1 : decide (2000 < q.nn) = true := decide_eq_true hbig.1
    have d2 : decide (q.nn ≤ 200000) = true := decide_eq_true hbig.2
    go_wp2_with (go_at_call 16; (with_reducible refine (awake_any _).mono ?_); rintro e wz ⟨rfl, hbz⟩)
    go_ret
    exact ⟨rfl, bdT B60 B60.size hbz⟩
  · have hcase : decide (2000 < q.nn) = false ∨ decide (2000 < q.nn) = true ∧ decide (q.nn ≤ 200000) = false := by
      by_cases h : 2000 < q.nn
      · exact .inr ⟨decide_eq_true h, decide_eq_false (fun h2 => hbig ⟨h, h2⟩)⟩
      · exact .inl (decide_eq_false h)
    clear hbig
    have z26 := (bkCell P60.out 26).trans (show _ = some (.bool q.he) from rfl)
    have HL := Lib.hid (show unrN s n xs q.nn ≤ 20000000000000 from Nat.le_trans (unrN_le s n xs q.nn) (by omega))
    obtain ⟨m, hm⟩ : ∃ m, unrN s n xs q.nn = m := ⟨_, rfl⟩
    obtain ⟨r, hr⟩ : ∃ r, unrE s n xs q.nn = r := ⟨_, rfl⟩
    rw [hm] at UNQ RUNQ HL
    rw [hr] at UNQ RUNQ
    clear hm hr
    have er1 : (r == r) = true := by simp
    rcases hcase with d1 | ⟨d1, d2⟩
    · skip
      go_upto_region 13 with (first
        | (refine wpList_load_row rfl 24 (.tmp 3) rfl (w1.heap.size) rfl 24 _ (0, 0) _ T60.out Try.underlying24 rfl (S.i24 _ _ _ _) ?_)
        | (go_at_call 21; (with_reducible refine (UNQ.out _ _ _ _ _ (Nat.le_succ n) E60.out).mono ?_); rintro e w61 ⟨A1, c1, b1, o1, rfl, X1, hb61⟩; have P61 := Lib.hid (bkBelow P60.out hb61); have T61 := Lib.hid (bkBelow T60.out hb61); have G61 := Lib.hid (bkBelow G60.out hb61); have D61 := Lib.hid (D60.out.later hb61); have E61 := Lib.hid (E60.out.later hb61); have B61 := bdT B60 B60.size hb61; have U61 := Lib.hid (X1); clear P60 T60 G60 D60 E60))
      clear z19 z26
      have z19 := (bkCell P61.out 19).trans (show _ = some (iv q.nn) from rfl)
      have z26 := (bkCell P61.out 26).trans (show _ = some (.bool q.he) from rfl)
      go_upto_region 14 with (first
        | (refine wpLoadAsk rfl _ rfl (w.heap.size) rfl q s A n c0 P61.out ?_)
        | (go_at_call 29; (with_reducible refine (RUNQ.out _ _ _ _ _ HC0.out D61.out).mono ?_); rintro e w62 ⟨A2, c2, b2, o2, rfl, X2, hb62⟩; have P62 := Lib.hid (bkBelow P61.out hb62); have T62 := Lib.hid (bkBelow T61.out hb62); have G62 := Lib.hid (bkBelow G61.out hb62); have D62 := Lib.hid (D61.out.later hb62); have E62 := Lib.hid (E61.out.later hb62); have U62 := Lib.hid (U61.out.later hb62); have B62 := bdT B61 B61.size hb62; have V62 := Lib.hid (X2); clear P61 T61 G61 D61 E61 U61))
      clear z19 z26
      go_wp2_with (first
        | (go_at_call 30; (with_reducible refine (same_big _ _ _ _ _ _ _ _ _ _ HL.out _ U62.out V62.out).mono ?_); rintro e w63 ⟨rfl, mm, rfl⟩; have P63 := Lib.hid (bkN P62.out mm); have T63 := Lib.hid (bkN T62.out mm); have G63 := Lib.hid (bkN G62.out mm); have D63 := Lib.hid (dataN D62.out mm); have B63 := bdN B62 mm)
        | (refine gdOn (by rfl) ?_; refine wpList_load_row rfl 24 (.tmp 3) rfl (w1.heap.size) rfl 24 _ (0, 0) _ T63.out Try.underlying24 rfl (S.i24 _ _ _ _) ?_)
        | (refine gdOn (by rfl) ?_; refine wpLoadAsk rfl _ rfl (w.heap.size) rfl q s A n c0 P63.out ?_)
        | (go_at_call 28; (with_reducible refine (UQ.out _ g D63.out G63.out).mono ?_); rintro e w64 ⟨rfl, hb64⟩; have B64 := bdT B63 B63.size hb64)
        | (go_at_call 16; (with_reducible refine (awake_any _).mono ?_); rintro e wz ⟨rfl, hbz⟩))
      go_ret
      exact ⟨rfl, bdT B64 B64.size hbz⟩
    · skip
      go_upto_region 13 with (first
        | (refine wpList_load_row rfl 24 (.tmp 3) rfl (w1.heap.size) rfl 24 _ (0, 0) _ T60.out Try.underlying24 rfl (S.i24 _ _ _ _) ?_)
        | (go_at_call 21; (with_reducible refine (UNQ.out _ _ _ _ _ (Nat.le_succ n) E60.out).mono ?_); rintro e w61 ⟨A1, c1, b1, o1, rfl, X1, hb61⟩; have P61 := Lib.hid (bkBelow P60.out hb61); have T61 := Lib.hid (bkBelow T60.out hb61); have G61 := Lib.hid (bkBelow G60.out hb61); have D61 := Lib.hid (D60.out.later hb61); have E61 := Lib.hid (E60.out.later hb61); have B61 := bdT B60 B60.size hb61; have U61 := Lib.hid (X1); clear P60 T60 G60 D60 E60))
      clear z19 z26
      have z19 := (bkCell P61.out 19).trans (show _ = some (iv q.nn) from rfl)
      have z26 := (bkCell P61.out 26).trans (show _ = some (.bool q.he) from rfl)
      go_upto_region 14 with (first
        | (refine wpLoadAsk rfl _ rfl (w.heap.size) rfl q s A n c0 P61.out ?_)
        | (go_at_call 29; (with_reducible refine (RUNQ.out _ _ _ _ _ HC0.out D61.out).mono ?_); rintro e w62 ⟨A2, c2, b2, o2, rfl, X2, hb62⟩; have P62 := Lib.hid (bkBelow P61.out hb62); have T62 := Lib.hid (bkBelow T61.out hb62); have G62 := Lib.hid (bkBelow G61.out hb62); have D62 := Lib.hid (D61.out.later hb62); have E62 := Lib.hid (E61.out.later hb62); have U62 := Lib.hid (U61.out.later hb62); have B62 := bdT B61 B61.size hb62; have V62 := Lib.hid (X2); clear P61 T61 G61 D61 E61 U61))
      clear z19 z26
      go_wp2_with (first
        | (go_at_call 30; (with_reducible refine (same_big _ _ _ _ _ _ _ _ _ _ HL.out _ U62.out V62.out).mono ?_); rintro e w63 ⟨rfl, mm, rfl⟩; have P63 := Lib.hid (bkN P62.out mm); have T63 := Lib.hid (bkN T62.out mm); have G63 := Lib.hid (bkN G62.out mm); have D63 := Lib.hid (dataN D62.out mm); have B63 := bdN B62 mm)
        | (refine gdOn (by rfl) ?_; refine wpList_load_row rfl 24 (.tmp 3) rfl (w1.heap.size) rfl 24 _ (0, 0) _ T63.out Try.underlying24 rfl (S.i24 _ _ _ _) ?_)
        | (refine gdOn (by rfl) ?_; refine wpLoadAsk rfl _ rfl (w.heap.size) rfl q s A n c0 P63.out ?_)
        | (go_at_call 28; (with_reducible refine (UQ.out _ g D63.out G63.out).mono ?_); rintro e w64 ⟨rfl, hb64⟩; have B64 := bdT B63 B63.size hb64)
        | (go_at_call 16; (with_reducible refine (awake_any _).mono ?_); rintro e wz ⟨rfl, hbz⟩))
      go_ret
      exact ⟨rfl, bdT B64 B64.size hbz⟩
theorem tells_law (q : Q) (s : S) (A : Option Addr) (n c0 : Nat) (zs : List Int) (ho : (Lit.int .i64 q.off).wf = true) (w : World) (h : RowOf w A n c0 zs) (hr : c0 * 8 ≤ reachBytes) : Calls Try.prog 7 #[.agg (q.cs s A n c0)] w fun e w' => e = .returned (.bool true) ∧ Below w.heap.size w w' := by
  obtain ⟨k1, hn, b, o, d1⟩ := dataOf h
  unfold reachBytes at hr
  exact tells_any q s A n c0 b o _ (wfR ho) (by omega) k1 w d1
end Go.Proofs.Ytnmoiolddfboiaa.SX

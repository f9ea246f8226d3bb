/- TuneLeast: no loop that is allowed differs less than the one that is found: the law, walked. -/
import Derived.Test.YtfodpoccjdaaaaaReB
import Derived.Test.YtfodpoccjdaaaaaReR
namespace Go.Proofs.Ytfodpoccjdaaaaa.SX
open Go.RowKit Go.Proofs.YtfodpoccjdaaaaaW.PrintLast Go.Proofs.Ytfodpoccjdaaaaa.TX
set_option linter.unusedVariables false
set_option linter.unusedSimpArgs false
def twv (s : S) (A : Option Addr) (n c : Nat) (x y z u : Int) : Array Value := #[.string s.nm, .slice A n c, iv s.a2, iv s.a3, iv s.a4, iv s.a5, iv s.a6, iv s.a7, iv s.a8, iv s.a9, iv s.a10, iv s.a11, iv s.a12, iv x, iv y, iv z, iv u]
theorem twz (s : S) (A : Option Addr) (n c : Nat) (x y z u : Int) : (twv s A n c x y z u)[13]? = some (iv x) ∧ (twv s A n c x y z u)[14]? = some (iv y) := ⟨rfl, rfl⟩
/-- the sample at the head of such a block, loaded in a region that draws its order -/
theorem exec_load_two {oi : Oper} {a : Act} {w : World} (x : Operand) (ho : oi.op = .load 31 x) (g : Nat) (hx : a.eval x = .pointer (some ⟨g, 0, none⟩)) (s : S) (A : Option Addr) (n c : Nat) (x' y z u : Int) (hg : w.heap[g]? = some (.cells (twv s A n c x' y z u) 33 (0, 0))) :
    (execOp a.eval oi).run Try.prog w = .ok (.value (.agg (s.cs A n c))) w := by
  have hc : w.rangeAt g 0 (s.cs A n c).toList := by
    intro j v hj
    rw [Nat.zero_add, bkCell hg j]
    have hl : j < 13 := by
      have := (List.getElem?_eq_some_iff.1 hj).1
      simpa [S.cs] using this
    have e : ∀ j, j < 13 → (twv s A n c x' y z u)[j]? = (s.cs A n c).toList[j]? := by
      intro j hj
      rcases (by omega : j = 0 ∨ j = 1 ∨ j = 2 ∨ j = 3 ∨ j = 4 ∨ j = 5 ∨ j = 6 ∨ j = 7 ∨ j = 8 ∨ j = 9 ∨ j = 10 ∨ j = 11 ∨ j = 12) with rfl | rfl | rfl | rfl | rfl | rfl | rfl | rfl | rfl | rfl | rfl | rfl | rfl <;> rfl
    rw [e j hl]
    exact hj
  have := run_loadVar_mid (P := Try.prog) w g 0 31 (s.cs A n c).toList _ hc Try.underlying31 rfl (by simpa using S.i24 s A n c)
  unfold execOp
  simp only [ho, hx, Instr.loadAt, Instr.sureAddr, Sem.run_bind, Sem.run_pure, Result.andThen_ok, this]
theorem frB_of {s : S} {n : Nat} {xs : Nat → Int} (h : vS s n xs = true) : FrB xs n := by
  intro i hi
  have h5 := (vS_yes h).2.2.2.2.1 i hi
  unfold hb at h5
  split at h5 <;> omega
theorem bkDrew {w : World} {g : Nat} {o : Obj} (h : w.heap[g]? = some o) : w.drew.heap[g]? = some o := h
def byN (n : Nat) : Nat := if n ≤ 512 then 1 else 8
theorem alB_yes {n wi L : Nat} {p q : Int} (hL : 1 ≤ L) (h : alB n wi L p q = true) : ∃ p' q' : Nat, p = p' ∧ q = q' ∧ Alw n wi L (byN n) p' q' := by
  have h := of_decide_eq_true h
  refine ⟨p.toNat, q.toNat, by omega, by omega, ?_⟩
  unfold Alw byN
  split <;> omega
theorem alB_of {n wi L p q : Nat} (hL : 1 ≤ L) (h : Alw n wi L (byN n) p q) : alB n wi L p q = true := by
  unfold Alw byN at h
  refine decide_eq_true ?_
  split at h <;> omega
theorem find_any (s : S) (A : Option Addr) (n c b o : Nat) (xs : Nat → Int) (wi L : Nat) (hv : vS s n xs = true) (hw1 : 1 ≤ wi) (hw2 : wi ≤ 256) (hL1 : 1 ≤ L) (hL2 : L ≤ 4096) (hc : n ≤ c) (w : World) (hA : DataAt w A n b o xs) :
    Calls Try.prog 34 #[.agg (s.cs A n c), iv wi, iv L] w fun e w' => ∃ st en best er : Int, e = .returned (.tuple #[iv st, iv en, iv best, iv er]) ∧ FRes (DD xs wi) (Alw n wi L (byN n)) st en best er ∧ Below w.heap.size w w' := by
  have hn := (vS_yes hv).2.2.1
  by_cases h : n ≤ 512
  · rw [show byN n = 1 from if_pos h]
    exact find_1 s A n c b o xs wi L hv h hw1 hw2 hL1 hL2 hn hc (frB_of hv) w hA
  · rw [show byN n = 8 from if_neg h]
    exact find_8 s A n c b o xs wi L hv (by omega) hw1 hw2 hL1 hL2 hn hc (frB_of hv) w hA
set_option maxHeartbeats 16000000 in
set_option maxRecDepth 100000 in
theorem least_wild (s : S) (A : Option Addr) (n c b o : Nat) (xs : Nat → Int) (x y z u p q : Int) (h1 : decide (n ≤ 5000 ∧ s.nm.size ≤ 100) = false) (hn : n ≤ 9223372036854775807) (hc : n ≤ c) (w : World) (hA : DataAt w A n b o xs) : Calls Try.prog 4 #[.agg (twv s A n c x y z u), .agg #[iv p, iv q]] w fun e w' => e = .returned (.bool true) ∧ Below w.heap.size w w' := by
  have B0 : Below w.heap.size w ((w.alloc (Obj.cells (twv s A n c x y z u) 33)).alloc (Obj.cells #[iv p, iv q] 34)) := ((Below.refl _ _).alloc (Nat.le_refl _) _).alloc (by simp) _
  have P0 := Lib.hid (heap_alloc2_old w (Obj.cells (twv s A n c x y z u) 33) (Obj.cells #[iv p, iv q] 34))
  have Q0 := Lib.hid (heap_alloc2_new w (Obj.cells (twv s A n c x y z u) 33) (Obj.cells #[iv p, iv q] 34))
  have D0 := Lib.hid (hA.later B0)
  have T1 := Lib.hid fun (W : World) => tame_any s A n c W
  rw [h1] at T1
  clear h1 hA
  go_enter Try.func4, Try.ntmps4
  go_upto_region 1 with (fail)
  generalize ((w.alloc (Obj.cells (twv s A n c x y z u) 33)).alloc (Obj.cells #[iv p, iv q] 34)) = w0 at *
  refine start_ (n := 10) (S := fun w' => w'.heap[w.heap.size]? = some (.cells (twv s A n c x y z u) 33 (0, 0)) ∧ w'.heap[w.heap.size + 1]? = some (.cells #[iv p, iv q] 34 (0, 0)) ∧ DataAt w' A n b o xs ∧ Below w.heap.size w w') (ds := []) #[false, false, false, false, false, false, false, false, false, false] (by kernel_rfl) rfl rfl ⟨P0.out, Q0.out, ⟨D0.out.top, D0.out.low, D0.out.cell⟩, B0.drew⟩ (fun hHeld => ?_)
  refine pure_ (i := 0) (N := some 13) (v := ?_) (a' := ?_) #[true, false, false, false, false, false, false, false, false, false] rfl rfl (by kernel_rfl) (fun _ _ _ h => h) (Or.inl ⟨by rfl, ?_⟩) ?_ ?_
  rotate_left
  · intro w'
    go_simp
    with_reducible rfl
  rotate_left
  · simp only [Act.put, List.setIfInBounds_toArray, List.set_cons_zero, List.set_cons_succ, i64_w, i32_w]
    rfl
  refine pure_ (i := 2) (N := some 15) (v := ?_) (a' := ?_) #[true, false, true, false, false, false, false, false, false, false] rfl rfl (by kernel_rfl) (fun _ _ _ h => h) (Or.inl ⟨by rfl, ?_⟩) ?_ ?_
  rotate_left
  · intro w'
    go_simp
    with_reducible rfl
  rotate_left
  · simp only [Act.put, List.setIfInBounds_toArray, List.set_cons_zero, List.set_cons_succ, i64_w, i32_w]
    rfl
  refine pure_ (i := 4) (N := some 17) (v := ?_) (a' := ?_) #[true, false, true, false, true, false, false, false, false, false] rfl rfl (by kernel_rfl) (fun _ _ _ h => h) (Or.inl ⟨by rfl, ?_⟩) ?_ ?_
  rotate_left
  · intro w'
    go_simp
    with_reducible rfl
  rotate_left
  · simp only [Act.put, List.setIfInBounds_toArray, List.set_cons_zero, List.set_cons_succ, i64_w, i32_w]
    rfl
  refine take_ (i := 1) (N := some 14) (v := ?_) (a' := ?_) #[true, true, true, false, true, false, false, false, false, false] rfl rfl (by kernel_rfl) (fun _ _ _ h => h) (Or.inl ⟨by rfl, ?_⟩) hHeld ?_ ?_
  rotate_left
  · rintro w' ⟨s0, s1, s2, s3⟩
    refine exec_load_two (.tmp 13) ?_ (w.heap.size) ?_ s A n c x y z u s0 <;> rfl
  rotate_left
  · simp only [Act.put, List.setIfInBounds_toArray, List.set_cons_zero, List.set_cons_succ, i64_w, i32_w]
    rfl
  refine take_ (i := 3) (N := some 16) (v := ?_) (a' := ?_) #[true, true, true, true, true, false, false, false, false, false] rfl rfl (by kernel_rfl) (fun _ _ _ h => h) (Or.inl ⟨by rfl, ?_⟩) hHeld ?_ ?_
  rotate_left
  · rintro w' ⟨s0, s1, s2, s3⟩
    have zc := (bkCell s0 13).trans (twz s A n c x y z u).1
    clear s0 s1 s2 s3
    go_simp
    with_reducible rfl
  rotate_left
  · simp only [Act.put, List.setIfInBounds_toArray, List.set_cons_zero, List.set_cons_succ, i64_w, i32_w]
    rfl
  refine take_ (i := 5) (N := some 18) (v := ?_) (a' := ?_) #[true, true, true, true, true, true, false, false, false, false] rfl rfl (by kernel_rfl) (fun _ _ _ h => h) (Or.inl ⟨by rfl, ?_⟩) hHeld ?_ ?_
  rotate_left
  · rintro w' ⟨s0, s1, s2, s3⟩
    have zc := (bkCell s0 14).trans (twz s A n c x y z u).2
    clear s0 s1 s2 s3
    go_simp
    with_reducible rfl
  rotate_left
  · simp only [Act.put, List.setIfInBounds_toArray, List.set_cons_zero, List.set_cons_succ, i64_w, i32_w]
    rfl
  refine one_ (i := 6) (N := some 5) #[true, true, true, true, true, true, true, false, false, false] rfl rfl (by kernel_rfl) (by decide) (fun K hK => ?_)
  obtain ⟨s0, s1, s2, s3⟩ := hHeld
  refine value_ (w1 := ?_) (v := ?_) (by rfl) rfl ?_ ?_
  rotate_left 2
  · go_simp
    constructor
    · rfl
    · rfl
  refine hK.out _ _ ⟨bkAlloc s0 _, bkAlloc s1 _, s2.later ((Below.refl _ _).alloc (Nat.le_refl _) _), bdT s3 s3.size ((Below.refl _ _).alloc (Nat.le_refl _) _)⟩ (fun hHeld => ?_)
  clear hK K
  refine norm_ (a' := ?_) ?_ ?_
  rotate_left
  · show Act.put _ (some 5) _ = _
    simp only [Act.put, List.setIfInBounds_toArray, List.set_cons_zero, List.set_cons_succ, i64_w, i32_w]
    rfl
  refine one_ (i := 7) (N := none) #[true, true, true, true, true, true, true, true, false, false] rfl rfl (by kernel_rfl) (by decide) (fun K hK => ?_)
  obtain ⟨s0, s1, s2, s3⟩ := hHeld
  refine skip_ (w1 := ?_) (by rfl) rfl ?_ ?_
  rotate_left
  · refine exec_store_row 31 (.tmp 5) (.tmp 14) ?_ (w0.heap.size) (s.cs A n c) ?_ ?_ 31 _ (bkDrew (heap_alloc_new w0 (Obj.cells #[Value.string ⟨#[]⟩, Value.slice none 0 0, iv 0, iv 0, iv 0, iv 0, iv 0, iv 0, iv 0, iv 0, iv 0, iv 0, iv 0] 31))) (S.i24 _ _ _ _) (S.sz S.zero _ none _ 0 0 _ _) (S.one _ _ _ _) <;> rfl
  refine hK.out _ _ ⟨bkBelow P0.out (below_setRow (((Below.refl w0.heap.size w0).alloc (Nat.le_refl _) _).drew) (g := w0.heap.size) (Nat.le_refl _) _), bkBelow Q0.out (below_setRow (((Below.refl w0.heap.size w0).alloc (Nat.le_refl _) _).drew) (g := w0.heap.size) (Nat.le_refl _) _), D0.out.later (below_setRow (((Below.refl w0.heap.size w0).alloc (Nat.le_refl _) _).drew) (g := w0.heap.size) (Nat.le_refl _) _), bdT B0 B0.size (below_setRow (((Below.refl w0.heap.size w0).alloc (Nat.le_refl _) _).drew) (g := w0.heap.size) (Nat.le_refl _) _)⟩ (fun hHeld => ?_)
  clear hK K
  refine pure_ (i := 8) (N := some 6) (v := ?_) (a' := ?_) #[true, true, true, true, true, true, true, true, true, false] rfl rfl (by kernel_rfl) (fun _ _ _ h => h) (Or.inl ⟨by rfl, ?_⟩) ?_ ?_
  rotate_left
  · intro w'
    go_simp
    with_reducible rfl
  rotate_left
  · simp only [Act.put, List.setIfInBounds_toArray, List.set_cons_zero, List.set_cons_succ, i64_w, i32_w]
    rfl
  refine pure_ (i := 9) (N := some 7) (v := ?_) (a' := ?_) #[true, true, true, true, true, true, true, true, true, true] rfl rfl (by kernel_rfl) (fun _ _ _ h => h) (Or.inl ⟨by rfl, ?_⟩) ?_ ?_
  rotate_left
  · intro w'
    go_simp
    with_reducible rfl
  rotate_left
  · simp only [Act.put, List.setIfInBounds_toArray, List.set_cons_zero, List.set_cons_succ, i64_w, i32_w]
    rfl
  refine done_ (by kernel_rfl) ?_
  obtain ⟨s0, s1, s2, s3⟩ := hHeld
  have P1 := Lib.hid s0
  have Q1 := Lib.hid s1
  have D1 := Lib.hid s2
  have B1 := s3
  have S1 := Lib.hid (setRow_heap _ _ _ (s.cs A n c) _ _ (bkDrew (heap_alloc_new w0 (Obj.cells #[Value.string ⟨#[]⟩, Value.slice none 0 0, iv 0, iv 0, iv 0, iv 0, iv 0, iv 0, iv 0, iv 0, iv 0, iv 0, iv 0] 31))))
  clear s0 s1 s2 s3 P0 Q0 D0
  generalize ((w0.alloc (Obj.cells #[Value.string ⟨#[]⟩, Value.slice none 0 0, iv 0, iv 0, iv 0, iv 0, iv 0, iv 0, iv 0, iv 0, iv 0, iv 0, iv 0] 31)).drew.setRow w0.heap.size (s.cs A n c)) = w1 at *
  go_wp2_with (first
    | (refine wpList_load_row rfl 31 (.tmp 5) rfl (w0.heap.size) rfl 31 _ (0, 0) _ S1.out Try.underlying31 rfl (S.i24 _ _ _ _) ?_)
    | (go_at_call 32; (with_reducible refine (T1.out _).mono ?_); rintro e w2 ⟨rfl, hb2⟩; have P2 := Lib.hid (bkBelow P1.out hb2); have Q2 := Lib.hid (bkBelow Q1.out hb2); have S2 := Lib.hid (bkBelow S1.out hb2); have D2 := Lib.hid (D1.out.later hb2); have B2 := bdT B1 B1.size hb2; clear P1 Q1 S1 D1))
  go_ret
  exact ⟨rfl, B2⟩
set_option maxHeartbeats 16000000 in
set_option maxRecDepth 100000 in
theorem least_bad (s : S) (A : Option Addr) (n c b o : Nat) (xs : Nat → Int) (x y z u p q : Int) (h1 : decide (n ≤ 5000 ∧ s.nm.size ≤ 100) = true) (hv : vS s n xs = false) (hn : n ≤ 9223372036854775807) (hc : n ≤ c) (w : World) (hA : DataAt w A n b o xs) : Calls Try.prog 4 #[.agg (twv s A n c x y z u), .agg #[iv p, iv q]] w fun e w' => e = .returned (.bool true) ∧ Below w.heap.size w w' := by
  have B0 : Below w.heap.size w ((w.alloc (Obj.cells (twv s A n c x y z u) 33)).alloc (Obj.cells #[iv p, iv q] 34)) := ((Below.refl _ _).alloc (Nat.le_refl _) _).alloc (by simp) _
  have P0 := Lib.hid (heap_alloc2_old w (Obj.cells (twv s A n c x y z u) 33) (Obj.cells #[iv p, iv q] 34))
  have Q0 := Lib.hid (heap_alloc2_new w (Obj.cells (twv s A n c x y z u) 33) (Obj.cells #[iv p, iv q] 34))
  have D0 := Lib.hid (hA.later B0)
  have T1 := Lib.hid fun (W : World) => tame_any s A n c W
  have VC := Lib.hid fun (W : World) (h : DataAt W A n b o xs) => rvalid_any s A n c b o xs hn hc W h
  rw [h1] at T1
  rw [hv] at VC
  clear h1 hv hA 
  go_enter Try.func4, Try.ntmps4
  go_upto_region 1 with (fail)
  generalize ((w.alloc (Obj.cells (twv s A n c x y z u) 33)).alloc (Obj.cells #[iv p, iv q] 34)) = w0 at *
  refine start_ (n := 10) (S := fun w' => w'.heap[w.heap.size]? = some (.cells (twv s A n c x y z u) 33 (0, 0)) ∧ w'.heap[w.heap.size + 1]? = some (.cells #[iv p, iv q] 34 (0, 0)) ∧ DataAt w' A n b o xs ∧ Below w.heap.size w w') (ds := []) #[false, false, false, false, false, false, false, false, false, false] (by kernel_rfl) rfl rfl ⟨P0.out, Q0.out, ⟨D0.out.top, D0.out.low, D0.out.cell⟩, B0.drew⟩ (fun hHeld => ?_)
  refine pure_ (i := 0) (N := some 13) (v := ?_) (a' := ?_) #[true, false, false, false, false, false, false, false, false, false] rfl rfl (by kernel_rfl) (fun _ _ _ h => h) (Or.inl ⟨by rfl, ?_⟩) ?_ ?_
  rotate_left
  · intro w'
    go_simp
    with_reducible rfl
  rotate_left
  · simp only [Act.put, List.setIfInBounds_toArray, List.set_cons_zero, List.set_cons_succ, i64_w, i32_w]
    rfl
  refine pure_ (i := 2) (N := some 15) (v := ?_) (a' := ?_) #[true, false, true, false, false, false, false, false, false, false] rfl rfl (by kernel_rfl) (fun _ _ _ h => h) (Or.inl ⟨by rfl, ?_⟩) ?_ ?_
  rotate_left
  · intro w'
    go_simp
    with_reducible rfl
  rotate_left
  · simp only [Act.put, List.setIfInBounds_toArray, List.set_cons_zero, List.set_cons_succ, i64_w, i32_w]
    rfl
  refine pure_ (i := 4) (N := some 17) (v := ?_) (a' := ?_) #[true, false, true, false, true, false, false, false, false, false] rfl rfl (by kernel_rfl) (fun _ _ _ h => h) (Or.inl ⟨by rfl, ?_⟩) ?_ ?_
  rotate_left
  · intro w'
    go_simp
    with_reducible rfl
  rotate_left
  · simp only [Act.put, List.setIfInBounds_toArray, List.set_cons_zero, List.set_cons_succ, i64_w, i32_w]
    rfl
  refine take_ (i := 1) (N := some 14) (v := ?_) (a' := ?_) #[true, true, true, false, true, false, false, false, false, false] rfl rfl (by kernel_rfl) (fun _ _ _ h => h) (Or.inl ⟨by rfl, ?_⟩) hHeld ?_ ?_
  rotate_left
  · rintro w' ⟨s0, s1, s2, s3⟩
    refine exec_load_two (.tmp 13) ?_ (w.heap.size) ?_ s A n c x y z u s0 <;> rfl
  rotate_left
  · simp only [Act.put, List.setIfInBounds_toArray, List.set_cons_zero, List.set_cons_succ, i64_w, i32_w]
    rfl
  refine take_ (i := 3) (N := some 16) (v := ?_) (a' := ?_) #[true, true, true, true, true, false, false, false, false, false] rfl rfl (by kernel_rfl) (fun _ _ _ h => h) (Or.inl ⟨by rfl, ?_⟩) hHeld ?_ ?_
  rotate_left
  · rintro w' ⟨s0, s1, s2, s3⟩
    have zc := (bkCell s0 13).trans (twz s A n c x y z u).1
    clear s0 s1 s2 s3
    go_simp
    with_reducible rfl
  rotate_left
  · simp only [Act.put, List.setIfInBounds_toArray, List.set_cons_zero, List.set_cons_succ, i64_w, i32_w]
    rfl
  refine take_ (i := 5) (N := some 18) (v := ?_) (a' := ?_) #[true, true, true, true, true, true, false, false, false, false] rfl rfl (by kernel_rfl) (fun _ _ _ h => h) (Or.inl ⟨by rfl, ?_⟩) hHeld ?_ ?_
  rotate_left
  · rintro w' ⟨s0, s1, s2, s3⟩
    have zc := (bkCell s0 14).trans (twz s A n c x y z u).2
    clear s0 s1 s2 s3
    go_simp
    with_reducible rfl
  rotate_left
  · simp only [Act.put, List.setIfInBounds_toArray, List.set_cons_zero, List.set_cons_succ, i64_w, i32_w]
    rfl
  refine one_ (i := 6) (N := some 5) #[true, true, true, true, true, true, true, false, false, false] rfl rfl (by kernel_rfl) (by decide) (fun K hK => ?_)
  obtain ⟨s0, s1, s2, s3⟩ := hHeld
  refine value_ (w1 := ?_) (v := ?_) (by rfl) rfl ?_ ?_
  rotate_left 2
  · go_simp
    constructor
    · rfl
    · rfl
  refine hK.out _ _ ⟨bkAlloc s0 _, bkAlloc s1 _, s2.later ((Below.refl _ _).alloc (Nat.le_refl _) _), bdT s3 s3.size ((Below.refl _ _).alloc (Nat.le_refl _) _)⟩ (fun hHeld => ?_)
  clear hK K
  refine norm_ (a' := ?_) ?_ ?_
  rotate_left
  · show Act.put _ (some 5) _ = _
    simp only [Act.put, List.setIfInBounds_toArray, List.set_cons_zero, List.set_cons_succ, i64_w, i32_w]
    rfl
  refine one_ (i := 7) (N := none) #[true, true, true, true, true, true, true, true, false, false] rfl rfl (by kernel_rfl) (by decide) (fun K hK => ?_)
  obtain ⟨s0, s1, s2, s3⟩ := hHeld
  refine skip_ (w1 := ?_) (by rfl) rfl ?_ ?_
  rotate_left
  · refine exec_store_row 31 (.tmp 5) (.tmp 14) ?_ (w0.heap.size) (s.cs A n c) ?_ ?_ 31 _ (bkDrew (heap_alloc_new w0 (Obj.cells #[Value.string ⟨#[]⟩, Value.slice none 0 0, iv 0, iv 0, iv 0, iv 0, iv 0, iv 0, iv 0, iv 0, iv 0, iv 0, iv 0] 31))) (S.i24 _ _ _ _) (S.sz S.zero _ none _ 0 0 _ _) (S.one _ _ _ _) <;> rfl
  refine hK.out _ _ ⟨bkBelow P0.out (below_setRow (((Below.refl w0.heap.size w0).alloc (Nat.le_refl _) _).drew) (g := w0.heap.size) (Nat.le_refl _) _), bkBelow Q0.out (below_setRow (((Below.refl w0.heap.size w0).alloc (Nat.le_refl _) _).drew) (g := w0.heap.size) (Nat.le_refl _) _), D0.out.later (below_setRow (((Below.refl w0.heap.size w0).alloc (Nat.le_refl _) _).drew) (g := w0.heap.size) (Nat.le_refl _) _), bdT B0 B0.size (below_setRow (((Below.refl w0.heap.size w0).alloc (Nat.le_refl _) _).drew) (g := w0.heap.size) (Nat.le_refl _) _)⟩ (fun hHeld => ?_)
  clear hK K
  refine pure_ (i := 8) (N := some 6) (v := ?_) (a' := ?_) #[true, true, true, true, true, true, true, true, true, false] rfl rfl (by kernel_rfl) (fun _ _ _ h => h) (Or.inl ⟨by rfl, ?_⟩) ?_ ?_
  rotate_left
  · intro w'
    go_simp
    with_reducible rfl
  rotate_left
  · simp only [Act.put, List.setIfInBounds_toArray, List.set_cons_zero, List.set_cons_succ, i64_w, i32_w]
    rfl
  refine pure_ (i := 9) (N := some 7) (v := ?_) (a' := ?_) #[true, true, true, true, true, true, true, true, true, true] rfl rfl (by kernel_rfl) (fun _ _ _ h => h) (Or.inl ⟨by rfl, ?_⟩) ?_ ?_
  rotate_left
  · intro w'
    go_simp
    with_reducible rfl
  rotate_left
  · simp only [Act.put, List.setIfInBounds_toArray, List.set_cons_zero, List.set_cons_succ, i64_w, i32_w]
    rfl
  refine done_ (by kernel_rfl) ?_
  obtain ⟨s0, s1, s2, s3⟩ := hHeld
  have P1 := Lib.hid s0
  have Q1 := Lib.hid s1
  have D1 := Lib.hid s2
  have B1 := s3
  have S1 := Lib.hid (setRow_heap _ _ _ (s.cs A n c) _ _ (bkDrew (heap_alloc_new w0 (Obj.cells #[Value.string ⟨#[]⟩, Value.slice none 0 0, iv 0, iv 0, iv 0, iv 0, iv 0, iv 0, iv 0, iv 0, iv 0, iv 0, iv 0] 31))))
  clear s0 s1 s2 s3 P0 Q0 D0
  generalize ((w0.alloc (Obj.cells #[Value.string ⟨#[]⟩, Value.slice none 0 0, iv 0, iv 0, iv 0, iv 0, iv 0, iv 0, iv 0, iv 0, iv 0, iv 0, iv 0] 31)).drew.setRow w0.heap.size (s.cs A n c)) = w1 at *
  go_wp2_with (first
    | (refine wpList_load_row rfl 31 (.tmp 5) rfl (w0.heap.size) rfl 31 _ (0, 0) _ S1.out Try.underlying31 rfl (S.i24 _ _ _ _) ?_)
    | (go_at_call 32; (with_reducible refine (T1.out _).mono ?_); rintro e w2 ⟨rfl, hb2⟩; have P2 := Lib.hid (bkBelow P1.out hb2); have Q2 := Lib.hid (bkBelow Q1.out hb2); have S2 := Lib.hid (bkBelow S1.out hb2); have D2 := Lib.hid (D1.out.later hb2); have B2 := bdT B1 B1.size hb2; clear P1 Q1 S1 D1)
    | (refine gdOn (by rfl) ?_; refine wpList_load_row rfl 31 (.tmp 5) rfl (w0.heap.size) rfl 31 _ (0, 0) _ S2.out Try.underlying31 rfl (S.i24 _ _ _ _) ?_)
    | (go_at_call 33; (with_reducible refine (VC.out _ D2.out).mono ?_); rintro e w3 ⟨rfl, hb3⟩; have P3 := Lib.hid (bkBelow P2.out hb3); have Q3 := Lib.hid (bkBelow Q2.out hb3); have S3 := Lib.hid (bkBelow S2.out hb3); have D3 := Lib.hid (D2.out.later hb3); have B3 := bdT B2 B2.size hb3; clear P2 Q2 S2 D2))
  go_ret
  exact ⟨rfl, B3⟩
set_option maxHeartbeats 16000000 in
set_option maxRecDepth 100000 in
theorem least_r0 (s : S) (A : Option Addr) (n c b o : Nat) (xs : Nat → Int) (x y z u p q : Int) (h1 : decide (n ≤ 5000 ∧ s.nm.size ≤ 100) = true) (hv : vS s n xs = true) (k1 : x < 1) (hn : n ≤ 9223372036854775807) (hc : n ≤ c) (w : World) (hA : DataAt w A n b o xs) : Calls Try.prog 4 #[.agg (twv s A n c x y z u), .agg #[iv p, iv q]] w fun e w' => e = .returned (.bool true) ∧ Below w.heap.size w w' := by
  have B0 : Below w.heap.size w ((w.alloc (Obj.cells (twv s A n c x y z u) 33)).alloc (Obj.cells #[iv p, iv q] 34)) := ((Below.refl _ _).alloc (Nat.le_refl _) _).alloc (by simp) _
  have P0 := Lib.hid (heap_alloc2_old w (Obj.cells (twv s A n c x y z u) 33) (Obj.cells #[iv p, iv q] 34))
  have Q0 := Lib.hid (heap_alloc2_new w (Obj.cells (twv s A n c x y z u) 33) (Obj.cells #[iv p, iv q] 34))
  have D0 := Lib.hid (hA.later B0)
  have T1 := Lib.hid fun (W : World) => tame_any s A n c W
  have VC := Lib.hid fun (W : World) (h : DataAt W A n b o xs) => rvalid_any s A n c b o xs hn hc W h
  rw [h1] at T1
  rw [hv] at VC
  have d1 : decide (x < 1) = true := decide_eq_true (by omega)
  clear h1 hv hA k1
  go_enter Try.func4, Try.ntmps4
  go_upto_region 1 with (fail)
  generalize ((w.alloc (Obj.cells (twv s A n c x y z u) 33)).alloc (Obj.cells #[iv p, iv q] 34)) = w0 at *
  refine start_ (n := 10) (S := fun w' => w'.heap[w.heap.size]? = some (.cells (twv s A n c x y z u) 33 (0, 0)) ∧ w'.heap[w.heap.size + 1]? = some (.cells #[iv p, iv q] 34 (0, 0)) ∧ DataAt w' A n b o xs ∧ Below w.heap.size w w') (ds := []) #[false, false, false, false, false, false, false, false, false, false] (by kernel_rfl) rfl rfl ⟨P0.out, Q0.out, ⟨D0.out.top, D0.out.low, D0.out.cell⟩, B0.drew⟩ (fun hHeld => ?_)
  refine pure_ (i := 0) (N := some 13) (v := ?_) (a' := ?_) #[true, false, false, false, false, false, false, false, false, false] rfl rfl (by kernel_rfl) (fun _ _ _ h => h) (Or.inl ⟨by rfl, ?_⟩) ?_ ?_
  rotate_left
  · intro w'
    go_simp
    with_reducible rfl
  rotate_left
  · simp only [Act.put, List.setIfInBounds_toArray, List.set_cons_zero, List.set_cons_succ, i64_w, i32_w]
    rfl
  refine pure_ (i := 2) (N := some 15) (v := ?_) (a' := ?_) #[true, false, true, false, false, false, false, false, false, false] rfl rfl (by kernel_rfl) (fun _ _ _ h => h) (Or.inl ⟨by rfl, ?_⟩) ?_ ?_
  rotate_left
  · intro w'
    go_simp
    with_reducible rfl
  rotate_left
  · simp only [Act.put, List.setIfInBounds_toArray, List.set_cons_zero, List.set_cons_succ, i64_w, i32_w]
    rfl
  refine pure_ (i := 4) (N := some 17) (v := ?_) (a' := ?_) #[true, false, true, false, true, false, false, false, false, false] rfl rfl (by kernel_rfl) (fun _ _ _ h => h) (Or.inl ⟨by rfl, ?_⟩) ?_ ?_
  rotate_left
  · intro w'
    go_simp
    with_reducible rfl
  rotate_left
  · simp only [Act.put, List.setIfInBounds_toArray, List.set_cons_zero, List.set_cons_succ, i64_w, i32_w]
    rfl
  refine take_ (i := 1) (N := some 14) (v := ?_) (a' := ?_) #[true, true, true, false, true, false, false, false, false, false] rfl rfl (by kernel_rfl) (fun _ _ _ h => h) (Or.inl ⟨by rfl, ?_⟩) hHeld ?_ ?_
  rotate_left
  · rintro w' ⟨s0, s1, s2, s3⟩
    refine exec_load_two (.tmp 13) ?_ (w.heap.size) ?_ s A n c x y z u s0 <;> rfl
  rotate_left
  · simp only [Act.put, List.setIfInBounds_toArray, List.set_cons_zero, List.set_cons_succ, i64_w, i32_w]
    rfl
  refine take_ (i := 3) (N := some 16) (v := ?_) (a' := ?_) #[true, true, true, true, true, false, false, false, false, false] rfl rfl (by kernel_rfl) (fun _ _ _ h => h) (Or.inl ⟨by rfl, ?_⟩) hHeld ?_ ?_
  rotate_left
  · rintro w' ⟨s0, s1, s2, s3⟩
    have zc := (bkCell s0 13).trans (twz s A n c x y z u).1
    clear s0 s1 s2 s3
    go_simp
    with_reducible rfl
  rotate_left
  · simp only [Act.put, List.setIfInBounds_toArray, List.set_cons_zero, List.set_cons_succ, i64_w, i32_w]
    rfl
  refine take_ (i := 5) (N := some 18) (v := ?_) (a' := ?_) #[true, true, true, true, true, true, false, false, false, false] rfl rfl (by kernel_rfl) (fun _ _ _ h => h) (Or.inl ⟨by rfl, ?_⟩) hHeld ?_ ?_
  rotate_left
  · rintro w' ⟨s0, s1, s2, s3⟩
    have zc := (bkCell s0 14).trans (twz s A n c x y z u).2
    clear s0 s1 s2 s3
    go_simp
    with_reducible rfl
  rotate_left
  · simp only [Act.put, List.setIfInBounds_toArray, List.set_cons_zero, List.set_cons_succ, i64_w, i32_w]
    rfl
  refine one_ (i := 6) (N := some 5) #[true, true, true, true, true, true, true, false, false, false] rfl rfl (by kernel_rfl) (by decide) (fun K hK => ?_)
  obtain ⟨s0, s1, s2, s3⟩ := hHeld
  refine value_ (w1 := ?_) (v := ?_) (by rfl) rfl ?_ ?_
  rotate_left 2
  · go_simp
    constructor
    · rfl
    · rfl
  refine hK.out _ _ ⟨bkAlloc s0 _, bkAlloc s1 _, s2.later ((Below.refl _ _).alloc (Nat.le_refl _) _), bdT s3 s3.size ((Below.refl _ _).alloc (Nat.le_refl _) _)⟩ (fun hHeld => ?_)
  clear hK K
  refine norm_ (a' := ?_) ?_ ?_
  rotate_left
  · show Act.put _ (some 5) _ = _
    simp only [Act.put, List.setIfInBounds_toArray, List.set_cons_zero, List.set_cons_succ, i64_w, i32_w]
    rfl
  refine one_ (i := 7) (N := none) #[true, true, true, true, true, true, true, true, false, false] rfl rfl (by kernel_rfl) (by decide) (fun K hK => ?_)
  obtain ⟨s0, s1, s2, s3⟩ := hHeld
  refine skip_ (w1 := ?_) (by rfl) rfl ?_ ?_
  rotate_left
  · refine exec_store_row 31 (.tmp 5) (.tmp 14) ?_ (w0.heap.size) (s.cs A n c) ?_ ?_ 31 _ (bkDrew (heap_alloc_new w0 (Obj.cells #[Value.string ⟨#[]⟩, Value.slice none 0 0, iv 0, iv 0, iv 0, iv 0, iv 0, iv 0, iv 0, iv 0, iv 0, iv 0, iv 0] 31))) (S.i24 _ _ _ _) (S.sz S.zero _ none _ 0 0 _ _) (S.one _ _ _ _) <;> rfl
  refine hK.out _ _ ⟨bkBelow P0.out (below_setRow (((Below.refl w0.heap.size w0).alloc (Nat.le_refl _) _).drew) (g := w0.heap.size) (Nat.le_refl _) _), bkBelow Q0.out (below_setRow (((Below.refl w0.heap.size w0).alloc (Nat.le_refl _) _).drew) (g := w0.heap.size) (Nat.le_refl _) _), D0.out.later (below_setRow (((Below.refl w0.heap.size w0).alloc (Nat.le_refl _) _).drew) (g := w0.heap.size) (Nat.le_refl _) _), bdT B0 B0.size (below_setRow (((Below.refl w0.heap.size w0).alloc (Nat.le_refl _) _).drew) (g := w0.heap.size) (Nat.le_refl _) _)⟩ (fun hHeld => ?_)
  clear hK K
  refine pure_ (i := 8) (N := some 6) (v := ?_) (a' := ?_) #[true, true, true, true, true, true, true, true, true, false] rfl rfl (by kernel_rfl) (fun _ _ _ h => h) (Or.inl ⟨by rfl, ?_⟩) ?_ ?_
  rotate_left
  · intro w'
    go_simp
    with_reducible rfl
  rotate_left
  · simp only [Act.put, List.setIfInBounds_toArray, List.set_cons_zero, List.set_cons_succ, i64_w, i32_w]
    rfl
  refine pure_ (i := 9) (N := some 7) (v := ?_) (a' := ?_) #[true, true, true, true, true, true, true, true, true, true] rfl rfl (by kernel_rfl) (fun _ _ _ h => h) (Or.inl ⟨by rfl, ?_⟩) ?_ ?_
  rotate_left
  · intro w'
    go_simp
    with_reducible rfl
  rotate_left
  · simp only [Act.put, List.setIfInBounds_toArray, List.set_cons_zero, List.set_cons_succ, i64_w, i32_w]
    rfl
  refine done_ (by kernel_rfl) ?_
  obtain ⟨s0, s1, s2, s3⟩ := hHeld
  have P1 := Lib.hid s0
  have Q1 := Lib.hid s1
  have D1 := Lib.hid s2
  have B1 := s3
  have S1 := Lib.hid (setRow_heap _ _ _ (s.cs A n c) _ _ (bkDrew (heap_alloc_new w0 (Obj.cells #[Value.string ⟨#[]⟩, Value.slice none 0 0, iv 0, iv 0, iv 0, iv 0, iv 0, iv 0, iv 0, iv 0, iv 0, iv 0, iv 0] 31))))
  clear s0 s1 s2 s3 P0 Q0 D0
  generalize ((w0.alloc (Obj.cells #[Value.string ⟨#[]⟩, Value.slice none 0 0, iv 0, iv 0, iv 0, iv 0, iv 0, iv 0, iv 0, iv 0, iv 0, iv 0, iv 0] 31)).drew.setRow w0.heap.size (s.cs A n c)) = w1 at *
  go_wp2_with (first
    | (refine wpList_load_row rfl 31 (.tmp 5) rfl (w0.heap.size) rfl 31 _ (0, 0) _ S1.out Try.underlying31 rfl (S.i24 _ _ _ _) ?_)
    | (go_at_call 32; (with_reducible refine (T1.out _).mono ?_); rintro e w2 ⟨rfl, hb2⟩; have P2 := Lib.hid (bkBelow P1.out hb2); have Q2 := Lib.hid (bkBelow Q1.out hb2); have S2 := Lib.hid (bkBelow S1.out hb2); have D2 := Lib.hid (D1.out.later hb2); have B2 := bdT B1 B1.size hb2; clear P1 Q1 S1 D1)
    | (refine gdOn (by rfl) ?_; refine wpList_load_row rfl 31 (.tmp 5) rfl (w0.heap.size) rfl 31 _ (0, 0) _ S2.out Try.underlying31 rfl (S.i24 _ _ _ _) ?_)
    | (go_at_call 33; (with_reducible refine (VC.out _ D2.out).mono ?_); rintro e w3 ⟨rfl, hb3⟩; have P3 := Lib.hid (bkBelow P2.out hb3); have Q3 := Lib.hid (bkBelow Q2.out hb3); have S3 := Lib.hid (bkBelow S2.out hb3); have D3 := Lib.hid (D2.out.later hb3); have B3 := bdT B2 B2.size hb3; clear P2 Q2 S2 D2))
  go_ret
  exact ⟨rfl, B3⟩
set_option maxHeartbeats 16000000 in
set_option maxRecDepth 100000 in
theorem least_r1 (s : S) (A : Option Addr) (n c b o : Nat) (xs : Nat → Int) (x y z u p q : Int) (h1 : decide (n ≤ 5000 ∧ s.nm.size ≤ 100) = true) (hv : vS s n xs = true) (k1 : 1 ≤ x) (k2 : 256 < x) (hn : n ≤ 9223372036854775807) (hc : n ≤ c) (w : World) (hA : DataAt w A n b o xs) : Calls Try.prog 4 #[.agg (twv s A n c x y z u), .agg #[iv p, iv q]] w fun e w' => e = .returned (.bool true) ∧ Below w.heap.size w w' := by
  have B0 : Below w.heap.size w ((w.alloc (Obj.cells (twv s A n c x y z u) 33)).alloc (Obj.cells #[iv p, iv q] 34)) := ((Below.refl _ _).alloc (Nat.le_refl _) _).alloc (by simp) _
  have P0 := Lib.hid (heap_alloc2_old w (Obj.cells (twv s A n c x y z u) 33) (Obj.cells #[iv p, iv q] 34))
  have Q0 := Lib.hid (heap_alloc2_new w (Obj.cells (twv s A n c x y z u) 33) (Obj.cells #[iv p, iv q] 34))
  have D0 := Lib.hid (hA.later B0)
  have T1 := Lib.hid fun (W : World) => tame_any s A n c W
  have VC := Lib.hid fun (W : World) (h : DataAt W A n b o xs) => rvalid_any s A n c b o xs hn hc W h
  rw [h1] at T1
  rw [hv] at VC
  have d1 : decide (x < 1) = false := decide_eq_false (by omega)
  have d2 : decide (256 < x) = true := decide_eq_true (by omega)
  clear h1 hv hA k1 k2
  go_enter Try.func4, Try.ntmps4
  go_upto_region 1 with (fail)
  generalize ((w.alloc (Obj.cells (twv s A n c x y z u) 33)).alloc (Obj.cells #[iv p, iv q] 34)) = w0 at *
  refine start_ (n := 10) (S := fun w' => w'.heap[w.heap.size]? = some (.cells (twv s A n c x y z u) 33 (0, 0)) ∧ w'.heap[w.heap.size + 1]? = some (.cells #[iv p, iv q] 34 (0, 0)) ∧ DataAt w' A n b o xs ∧ Below w.heap.size w w') (ds := []) #[false, false, false, false, false, false, false, false, false, false] (by kernel_rfl) rfl rfl ⟨P0.out, Q0.out, ⟨D0.out.top, D0.out.low, D0.out.cell⟩, B0.drew⟩ (fun hHeld => ?_)
  refine pure_ (i := 0) (N := some 13) (v := ?_) (a' := ?_) #[true, false, false, false, false, false, false, false, false, false] rfl rfl (by kernel_rfl) (fun _ _ _ h => h) (Or.inl ⟨by rfl, ?_⟩) ?_ ?_
  rotate_left
  · intro w'
    go_simp
    with_reducible rfl
  rotate_left
  · simp only [Act.put, List.setIfInBounds_toArray, List.set_cons_zero, List.set_cons_succ, i64_w, i32_w]
    rfl
  refine pure_ (i := 2) (N := some 15) (v := ?_) (a' := ?_) #[true, false, true, false, false, false, false, false, false, false] rfl rfl (by kernel_rfl) (fun _ _ _ h => h) (Or.inl ⟨by rfl, ?_⟩) ?_ ?_
  rotate_left
  · intro w'
    go_simp
    with_reducible rfl
  rotate_left
  · simp only [Act.put, List.setIfInBounds_toArray, List.set_cons_zero, List.set_cons_succ, i64_w, i32_w]
    rfl
  refine pure_ (i := 4) (N := some 17) (v := ?_) (a' := ?_) #[true, false, true, false, true, false, false, false, false, false] rfl rfl (by kernel_rfl) (fun _ _ _ h => h) (Or.inl ⟨by rfl, ?_⟩) ?_ ?_
  rotate_left
  · intro w'
    go_simp
    with_reducible rfl
  rotate_left
  · simp only [Act.put, List.setIfInBounds_toArray, List.set_cons_zero, List.set_cons_succ, i64_w, i32_w]
    rfl
  refine take_ (i := 1) (N := some 14) (v := ?_) (a' := ?_) #[true, true, true, false, true, false, false, false, false, false] rfl rfl (by kernel_rfl) (fun _ _ _ h => h) (Or.inl ⟨by rfl, ?_⟩) hHeld ?_ ?_
  rotate_left
  · rintro w' ⟨s0, s1, s2, s3⟩
    refine exec_load_two (.tmp 13) ?_ (w.heap.size) ?_ s A n c x y z u s0 <;> rfl
  rotate_left
  · simp only [Act.put, List.setIfInBounds_toArray, List.set_cons_zero, List.set_cons_succ, i64_w, i32_w]
    rfl
  refine take_ (i := 3) (N := some 16) (v := ?_) (a' := ?_) #[true, true, true, true, true, false, false, false, false, false] rfl rfl (by kernel_rfl) (fun _ _ _ h => h) (Or.inl ⟨by rfl, ?_⟩) hHeld ?_ ?_
  rotate_left
  · rintro w' ⟨s0, s1, s2, s3⟩
    have zc := (bkCell s0 13).trans (twz s A n c x y z u).1
    clear s0 s1 s2 s3
    go_simp
    with_reducible rfl
  rotate_left
  · simp only [Act.put, List.setIfInBounds_toArray, List.set_cons_zero, List.set_cons_succ, i64_w, i32_w]
    rfl
  refine take_ (i := 5) (N := some 18) (v := ?_) (a' := ?_) #[true, true, true, true, true, true, false, false, false, false] rfl rfl (by kernel_rfl) (fun _ _ _ h => h) (Or.inl ⟨by rfl, ?_⟩) hHeld ?_ ?_
  rotate_left
  · rintro w' ⟨s0, s1, s2, s3⟩
    have zc := (bkCell s0 14).trans (twz s A n c x y z u).2
    clear s0 s1 s2 s3
    go_simp
    with_reducible rfl
  rotate_left
  · simp only [Act.put, List.setIfInBounds_toArray, List.set_cons_zero, List.set_cons_succ, i64_w, i32_w]
    rfl
  refine one_ (i := 6) (N := some 5) #[true, true, true, true, true, true, true, false, false, false] rfl rfl (by kernel_rfl) (by decide) (fun K hK => ?_)
  obtain ⟨s0, s1, s2, s3⟩ := hHeld
  refine value_ (w1 := ?_) (v := ?_) (by rfl) rfl ?_ ?_
  rotate_left 2
  · go_simp
    constructor
    · rfl
    · rfl
  refine hK.out _ _ ⟨bkAlloc s0 _, bkAlloc s1 _, s2.later ((Below.refl _ _).alloc (Nat.le_refl _) _), bdT s3 s3.size ((Below.refl _ _).alloc (Nat.le_refl _) _)⟩ (fun hHeld => ?_)
  clear hK K
  refine norm_ (a' := ?_) ?_ ?_
  rotate_left
  · show Act.put _ (some 5) _ = _
    simp only [Act.put, List.setIfInBounds_toArray, List.set_cons_zero, List.set_cons_succ, i64_w, i32_w]
    rfl
  refine one_ (i := 7) (N := none) #[true, true, true, true, true, true, true, true, false, false] rfl rfl (by kernel_rfl) (by decide) (fun K hK => ?_)
  obtain ⟨s0, s1, s2, s3⟩ := hHeld
  refine skip_ (w1 := ?_) (by rfl) rfl ?_ ?_
  rotate_left
  · refine exec_store_row 31 (.tmp 5) (.tmp 14) ?_ (w0.heap.size) (s.cs A n c) ?_ ?_ 31 _ (bkDrew (heap_alloc_new w0 (Obj.cells #[Value.string ⟨#[]⟩, Value.slice none 0 0, iv 0, iv 0, iv 0, iv 0, iv 0, iv 0, iv 0, iv 0, iv 0, iv 0, iv 0] 31))) (S.i24 _ _ _ _) (S.sz S.zero _ none _ 0 0 _ _) (S.one _ _ _ _) <;> rfl
  refine hK.out _ _ ⟨bkBelow P0.out (below_setRow (((Below.refl w0.heap.size w0).alloc (Nat.le_refl _) _).drew) (g := w0.heap.size) (Nat.le_refl _) _), bkBelow Q0.out (below_setRow (((Below.refl w0.heap.size w0).alloc (Nat.le_refl _) _).drew) (g := w0.heap.size) (Nat.le_refl _) _), D0.out.later (below_setRow (((Below.refl w0.heap.size w0).alloc (Nat.le_refl _) _).drew) (g := w0.heap.size) (Nat.le_refl _) _), bdT B0 B0.size (below_setRow (((Below.refl w0.heap.size w0).alloc (Nat.le_refl _) _).drew) (g := w0.heap.size) (Nat.le_refl _) _)⟩ (fun hHeld => ?_)
  clear hK K
  refine pure_ (i := 8) (N := some 6) (v := ?_) (a' := ?_) #[true, true, true, true, true, true, true, true, true, false] rfl rfl (by kernel_rfl) (fun _ _ _ h => h) (Or.inl ⟨by rfl, ?_⟩) ?_ ?_
  rotate_left
  · intro w'
    go_simp
    with_reducible rfl
  rotate_left
  · simp only [Act.put, List.setIfInBounds_toArray, List.set_cons_zero, List.set_cons_succ, i64_w, i32_w]
    rfl
  refine pure_ (i := 9) (N := some 7) (v := ?_) (a' := ?_) #[true, true, true, true, true, true, true, true, true, true] rfl rfl (by kernel_rfl) (fun _ _ _ h => h) (Or.inl ⟨by rfl, ?_⟩) ?_ ?_
  rotate_left
  · intro w'
    go_simp
    with_reducible rfl
  rotate_left
  · simp only [Act.put, List.setIfInBounds_toArray, List.set_cons_zero, List.set_cons_succ, i64_w, i32_w]
    rfl
  refine done_ (by kernel_rfl) ?_
  obtain ⟨s0, s1, s2, s3⟩ := hHeld
  have P1 := Lib.hid s0
  have Q1 := Lib.hid s1
  have D1 := Lib.hid s2
  have B1 := s3
  have S1 := Lib.hid (setRow_heap _ _ _ (s.cs A n c) _ _ (bkDrew (heap_alloc_new w0 (Obj.cells #[Value.string ⟨#[]⟩, Value.slice none 0 0, iv 0, iv 0, iv 0, iv 0, iv 0, iv 0, iv 0, iv 0, iv 0, iv 0, iv 0] 31))))
  clear s0 s1 s2 s3 P0 Q0 D0
  generalize ((w0.alloc (Obj.cells #[Value.string ⟨#[]⟩, Value.slice none 0 0, iv 0, iv 0, iv 0, iv 0, iv 0, iv 0, iv 0, iv 0, iv 0, iv 0, iv 0] 31)).drew.setRow w0.heap.size (s.cs A n c)) = w1 at *
  go_wp2_with (first
    | (refine wpList_load_row rfl 31 (.tmp 5) rfl (w0.heap.size) rfl 31 _ (0, 0) _ S1.out Try.underlying31 rfl (S.i24 _ _ _ _) ?_)
    | (go_at_call 32; (with_reducible refine (T1.out _).mono ?_); rintro e w2 ⟨rfl, hb2⟩; have P2 := Lib.hid (bkBelow P1.out hb2); have Q2 := Lib.hid (bkBelow Q1.out hb2); have S2 := Lib.hid (bkBelow S1.out hb2); have D2 := Lib.hid (D1.out.later hb2); have B2 := bdT B1 B1.size hb2; clear P1 Q1 S1 D1)
    | (refine gdOn (by rfl) ?_; refine wpList_load_row rfl 31 (.tmp 5) rfl (w0.heap.size) rfl 31 _ (0, 0) _ S2.out Try.underlying31 rfl (S.i24 _ _ _ _) ?_)
    | (go_at_call 33; (with_reducible refine (VC.out _ D2.out).mono ?_); rintro e w3 ⟨rfl, hb3⟩; have P3 := Lib.hid (bkBelow P2.out hb3); have Q3 := Lib.hid (bkBelow Q2.out hb3); have S3 := Lib.hid (bkBelow S2.out hb3); have D3 := Lib.hid (D2.out.later hb3); have B3 := bdT B2 B2.size hb3; clear P2 Q2 S2 D2))
  go_ret
  exact ⟨rfl, B3⟩
set_option maxHeartbeats 16000000 in
set_option maxRecDepth 100000 in
theorem least_r2 (s : S) (A : Option Addr) (n c b o : Nat) (xs : Nat → Int) (x y z u p q : Int) (h1 : decide (n ≤ 5000 ∧ s.nm.size ≤ 100) = true) (hv : vS s n xs = true) (k1 : 1 ≤ x) (k2 : x ≤ 256) (k3 : y < 1) (hn : n ≤ 9223372036854775807) (hc : n ≤ c) (w : World) (hA : DataAt w A n b o xs) : Calls Try.prog 4 #[.agg (twv s A n c x y z u), .agg #[iv p, iv q]] w fun e w' => e = .returned (.bool true) ∧ Below w.heap.size w w' := by
  have B0 : Below w.heap.size w ((w.alloc (Obj.cells (twv s A n c x y z u) 33)).alloc (Obj.cells #[iv p, iv q] 34)) := ((Below.refl _ _).alloc (Nat.le_refl _) _).alloc (by simp) _
  have P0 := Lib.hid (heap_alloc2_old w (Obj.cells (twv s A n c x y z u) 33) (Obj.cells #[iv p, iv q] 34))
  have Q0 := Lib.hid (heap_alloc2_new w (Obj.cells (twv s A n c x y z u) 33) (Obj.cells #[iv p, iv q] 34))
  have D0 := Lib.hid (hA.later B0)
  have T1 := Lib.hid fun (W : World) => tame_any s A n c W
  have VC := Lib.hid fun (W : World) (h : DataAt W A n b o xs) => rvalid_any s A n c b o xs hn hc W h
  rw [h1] at T1
  rw [hv] at VC
  have d1 : decide (x < 1) = false := decide_eq_false (by omega)
  have d2 : decide (256 < x) = false := decide_eq_false (by omega)
  have d3 : decide (y < 1) = true := decide_eq_true (by omega)
  clear h1 hv hA k1 k2 k3
  go_enter Try.func4, Try.ntmps4
  go_upto_region 1 with (fail)
  generalize ((w.alloc (Obj.cells (twv s A n c x y z u) 33)).alloc (Obj.cells #[iv p, iv q] 34)) = w0 at *
  refine start_ (n := 10) (S := fun w' => w'.heap[w.heap.size]? = some (.cells (twv s A n c x y z u) 33 (0, 0)) ∧ w'.heap[w.heap.size + 1]? = some (.cells #[iv p, iv q] 34 (0, 0)) ∧ DataAt w' A n b o xs ∧ Below w.heap.size w w') (ds := []) #[false, false, false, false, false, false, false, false, false, false] (by kernel_rfl) rfl rfl ⟨P0.out, Q0.out, ⟨D0.out.top, D0.out.low, D0.out.cell⟩, B0.drew⟩ (fun hHeld => ?_)
  refine pure_ (i := 0) (N := some 13) (v := ?_) (a' := ?_) #[true, false, false, false, false, false, false, false, false, false] rfl rfl (by kernel_rfl) (fun _ _ _ h => h) (Or.inl ⟨by rfl, ?_⟩) ?_ ?_
  rotate_left
  · intro w'
    go_simp
    with_reducible rfl
  rotate_left
  · simp only [Act.put, List.setIfInBounds_toArray, List.set_cons_zero, List.set_cons_succ, i64_w, i32_w]
    rfl
  refine pure_ (i := 2) (N := some 15) (v := ?_) (a' := ?_) #[true, false, true, false, false, false, false, false, false, false] rfl rfl (by kernel_rfl) (fun _ _ _ h => h) (Or.inl ⟨by rfl, ?_⟩) ?_ ?_
  rotate_left
  · intro w'
    go_simp
    with_reducible rfl
  rotate_left
  · simp only [Act.put, List.setIfInBounds_toArray, List.set_cons_zero, List.set_cons_succ, i64_w, i32_w]
    rfl
  refine pure_ (i := 4) (N := some 17) (v := ?_) (a' := ?_) #[true, false, true, false, true, false, false, false, false, false] rfl rfl (by kernel_rfl) (fun _ _ _ h => h) (Or.inl ⟨by rfl, ?_⟩) ?_ ?_
  rotate_left
  · intro w'
    go_simp
    with_reducible rfl
  rotate_left
  · simp only [Act.put, List.setIfInBounds_toArray, List.set_cons_zero, List.set_cons_succ, i64_w, i32_w]
    rfl
  refine take_ (i := 1) (N := some 14) (v := ?_) (a' := ?_) #[true, true, true, false, true, false, false, false, false, false] rfl rfl (by kernel_rfl) (fun _ _ _ h => h) (Or.inl ⟨by rfl, ?_⟩) hHeld ?_ ?_
  rotate_left
  · rintro w' ⟨s0, s1, s2, s3⟩
    refine exec_load_two (.tmp 13) ?_ (w.heap.size) ?_ s A n c x y z u s0 <;> rfl
  rotate_left
  · simp only [Act.put, List.setIfInBounds_toArray, List.set_cons_zero, List.set_cons_succ, i64_w, i32_w]
    rfl
  refine take_ (i := 3) (N := some 16) (v := ?_) (a' := ?_) #[true, true, true, true, true, false, false, false, false, false] rfl rfl (by kernel_rfl) (fun _ _ _ h => h) (Or.inl ⟨by rfl, ?_⟩) hHeld ?_ ?_
  rotate_left
  · rintro w' ⟨s0, s1, s2, s3⟩
    have zc := (bkCell s0 13).trans (twz s A n c x y z u).1
    clear s0 s1 s2 s3
    go_simp
    with_reducible rfl
  rotate_left
  · simp only [Act.put, List.setIfInBounds_toArray, List.set_cons_zero, List.set_cons_succ, i64_w, i32_w]
    rfl
  refine take_ (i := 5) (N := some 18) (v := ?_) (a' := ?_) #[true, true, true, true, true, true, false, false, false, false] rfl rfl (by kernel_rfl) (fun _ _ _ h => h) (Or.inl ⟨by rfl, ?_⟩) hHeld ?_ ?_
  rotate_left
  · rintro w' ⟨s0, s1, s2, s3⟩
    have zc := (bkCell s0 14).trans (twz s A n c x y z u).2
    clear s0 s1 s2 s3
    go_simp
    with_reducible rfl
  rotate_left
  · simp only [Act.put, List.setIfInBounds_toArray, List.set_cons_zero, List.set_cons_succ, i64_w, i32_w]
    rfl
  refine one_ (i := 6) (N := some 5) #[true, true, true, true, true, true, true, false, false, false] rfl rfl (by kernel_rfl) (by decide) (fun K hK => ?_)
  obtain ⟨s0, s1, s2, s3⟩ := hHeld
  refine value_ (w1 := ?_) (v := ?_) (by rfl) rfl ?_ ?_
  rotate_left 2
  · go_simp
    constructor
    · rfl
    · rfl
  refine hK.out _ _ ⟨bkAlloc s0 _, bkAlloc s1 _, s2.later ((Below.refl _ _).alloc (Nat.le_refl _) _), bdT s3 s3.size ((Below.refl _ _).alloc (Nat.le_refl _) _)⟩ (fun hHeld => ?_)
  clear hK K
  refine norm_ (a' := ?_) ?_ ?_
  rotate_left
  · show Act.put _ (some 5) _ = _
    simp only [Act.put, List.setIfInBounds_toArray, List.set_cons_zero, List.set_cons_succ, i64_w, i32_w]
    rfl
  refine one_ (i := 7) (N := none) #[true, true, true, true, true, true, true, true, false, false] rfl rfl (by kernel_rfl) (by decide) (fun K hK => ?_)
  obtain ⟨s0, s1, s2, s3⟩ := hHeld
  refine skip_ (w1 := ?_) (by rfl) rfl ?_ ?_
  rotate_left
  · refine exec_store_row 31 (.tmp 5) (.tmp 14) ?_ (w0.heap.size) (s.cs A n c) ?_ ?_ 31 _ (bkDrew (heap_alloc_new w0 (Obj.cells #[Value.string ⟨#[]⟩, Value.slice none 0 0, iv 0, iv 0, iv 0, iv 0, iv 0, iv 0, iv 0, iv 0, iv 0, iv 0, iv 0] 31))) (S.i24 _ _ _ _) (S.sz S.zero _ none _ 0 0 _ _) (S.one _ _ _ _) <;> rfl
  refine hK.out _ _ ⟨bkBelow P0.out (below_setRow (((Below.refl w0.heap.size w0).alloc (Nat.le_refl _) _).drew) (g := w0.heap.size) (Nat.le_refl _) _), bkBelow Q0.out (below_setRow (((Below.refl w0.heap.size w0).alloc (Nat.le_refl _) _).drew) (g := w0.heap.size) (Nat.le_refl _) _), D0.out.later (below_setRow (((Below.refl w0.heap.size w0).alloc (Nat.le_refl _) _).drew) (g := w0.heap.size) (Nat.le_refl _) _), bdT B0 B0.size (below_setRow (((Below.refl w0.heap.size w0).alloc (Nat.le_refl _) _).drew) (g := w0.heap.size) (Nat.le_refl _) _)⟩ (fun hHeld => ?_)
  clear hK K
  refine pure_ (i := 8) (N := some 6) (v := ?_) (a' := ?_) #[true, true, true, true, true, true, true, true, true, false] rfl rfl (by kernel_rfl) (fun _ _ _ h => h) (Or.inl ⟨by rfl, ?_⟩) ?_ ?_
  rotate_left
  · intro w'
    go_simp
    with_reducible rfl
  rotate_left
  · simp only [Act.put, List.setIfInBounds_toArray, List.set_cons_zero, List.set_cons_succ, i64_w, i32_w]
    rfl
  refine pure_ (i := 9) (N := some 7) (v := ?_) (a' := ?_) #[true, true, true, true, true, true, true, true, true, true] rfl rfl (by kernel_rfl) (fun _ _ _ h => h) (Or.inl ⟨by rfl, ?_⟩) ?_ ?_
  rotate_left
  · intro w'
    go_simp
    with_reducible rfl
  rotate_left
  · simp only [Act.put, List.setIfInBounds_toArray, List.set_cons_zero, List.set_cons_succ, i64_w, i32_w]
    rfl
  refine done_ (by kernel_rfl) ?_
  obtain ⟨s0, s1, s2, s3⟩ := hHeld
  have P1 := Lib.hid s0
  have Q1 := Lib.hid s1
  have D1 := Lib.hid s2
  have B1 := s3
  have S1 := Lib.hid (setRow_heap _ _ _ (s.cs A n c) _ _ (bkDrew (heap_alloc_new w0 (Obj.cells #[Value.string ⟨#[]⟩, Value.slice none 0 0, iv 0, iv 0, iv 0, iv 0, iv 0, iv 0, iv 0, iv 0, iv 0, iv 0, iv 0] 31))))
  clear s0 s1 s2 s3 P0 Q0 D0
  generalize ((w0.alloc (Obj.cells #[Value.string ⟨#[]⟩, Value.slice none 0 0, iv 0, iv 0, iv 0, iv 0, iv 0, iv 0, iv 0, iv 0, iv 0, iv 0, iv 0] 31)).drew.setRow w0.heap.size (s.cs A n c)) = w1 at *
  go_wp2_with (first
    | (refine wpList_load_row rfl 31 (.tmp 5) rfl (w0.heap.size) rfl 31 _ (0, 0) _ S1.out Try.underlying31 rfl (S.i24 _ _ _ _) ?_)
    | (go_at_call 32; (with_reducible refine (T1.out _).mono ?_); rintro e w2 ⟨rfl, hb2⟩; have P2 := Lib.hid (bkBelow P1.out hb2); have Q2 := Lib.hid (bkBelow Q1.out hb2); have S2 := Lib.hid (bkBelow S1.out hb2); have D2 := Lib.hid (D1.out.later hb2); have B2 := bdT B1 B1.size hb2; clear P1 Q1 S1 D1)
    | (refine gdOn (by rfl) ?_; refine wpList_load_row rfl 31 (.tmp 5) rfl (w0.heap.size) rfl 31 _ (0, 0) _ S2.out Try.underlying31 rfl (S.i24 _ _ _ _) ?_)
    | (go_at_call 33; (with_reducible refine (VC.out _ D2.out).mono ?_); rintro e w3 ⟨rfl, hb3⟩; have P3 := Lib.hid (bkBelow P2.out hb3); have Q3 := Lib.hid (bkBelow Q2.out hb3); have S3 := Lib.hid (bkBelow S2.out hb3); have D3 := Lib.hid (D2.out.later hb3); have B3 := bdT B2 B2.size hb3; clear P2 Q2 S2 D2))
  go_ret
  exact ⟨rfl, B3⟩
set_option maxHeartbeats 16000000 in
set_option maxRecDepth 100000 in
theorem least_r3 (s : S) (A : Option Addr) (n c b o : Nat) (xs : Nat → Int) (x y z u p q : Int) (h1 : decide (n ≤ 5000 ∧ s.nm.size ≤ 100) = true) (hv : vS s n xs = true) (k1 : 1 ≤ x) (k2 : x ≤ 256) (k3 : 1 ≤ y) (k4 : 4096 < y) (hn : n ≤ 9223372036854775807) (hc : n ≤ c) (w : World) (hA : DataAt w A n b o xs) : Calls Try.prog 4 #[.agg (twv s A n c x y z u), .agg #[iv p, iv q]] w fun e w' => e = .returned (.bool true) ∧ Below w.heap.size w w' := by
  have B0 : Below w.heap.size w ((w.alloc (Obj.cells (twv s A n c x y z u) 33)).alloc (Obj.cells #[iv p, iv q] 34)) := ((Below.refl _ _).alloc (Nat.le_refl _) _).alloc (by simp) _
  have P0 := Lib.hid (heap_alloc2_old w (Obj.cells (twv s A n c x y z u) 33) (Obj.cells #[iv p, iv q] 34))
  have Q0 := Lib.hid (heap_alloc2_new w (Obj.cells (twv s A n c x y z u) 33) (Obj.cells #[iv p, iv q] 34))
  have D0 := Lib.hid (hA.later B0)
  have T1 := Lib.hid fun (W : World) => tame_any s A n c W
  have VC := Lib.hid fun (W : World) (h : DataAt W A n b o xs) => rvalid_any s A n c b o xs hn hc W h
  rw [h1] at T1
  rw [hv] at VC
  have d1 : decide (x < 1) = false := decide_eq_false (by omega)
  have d2 : decide (256 < x) = false := decide_eq_false (by omega)
  have d3 : decide (y < 1) = false := decide_eq_false (by omega)
  have d4 : decide (4096 < y) = true := decide_eq_true (by omega)
  clear h1 hv hA k1 k2 k3 k4
  go_enter Try.func4, Try.ntmps4
  go_upto_region 1 with (fail)
  generalize ((w.alloc (Obj.cells (twv s A n c x y z u) 33)).alloc (Obj.cells #[iv p, iv q] 34)) = w0 at *
  refine start_ (n := 10) (S := fun w' => w'.heap[w.heap.size]? = some (.cells (twv s A n c x y z u) 33 (0, 0)) ∧ w'.heap[w.heap.size + 1]? = some (.cells #[iv p, iv q] 34 (0, 0)) ∧ DataAt w' A n b o xs ∧ Below w.heap.size w w') (ds := []) #[false, false, false, false, false, false, false, false, false, false] (by kernel_rfl) rfl rfl ⟨P0.out, Q0.out, ⟨D0.out.top, D0.out.low, D0.out.cell⟩, B0.drew⟩ (fun hHeld => ?_)
  refine pure_ (i := 0) (N := some 13) (v := ?_) (a' := ?_) #[true, false, false, false, false, false, false, false, false, false] rfl rfl (by kernel_rfl) (fun _ _ _ h => h) (Or.inl ⟨by rfl, ?_⟩) ?_ ?_
  rotate_left
  · intro w'
    go_simp
    with_reducible rfl
  rotate_left
  · simp only [Act.put, List.setIfInBounds_toArray, List.set_cons_zero, List.set_cons_succ, i64_w, i32_w]
    rfl
  refine pure_ (i := 2) (N := some 15) (v := ?_) (a' := ?_) #[true, false, true, false, false, false, false, false, false, false] rfl rfl (by kernel_rfl) (fun _ _ _ h => h) (Or.inl ⟨by rfl, ?_⟩) ?_ ?_
  rotate_left
  · intro w'
    go_simp
    with_reducible rfl
  rotate_left
  · simp only [Act.put, List.setIfInBounds_toArray, List.set_cons_zero, List.set_cons_succ, i64_w, i32_w]
    rfl
  refine pure_ (i := 4) (N := some 17) (v := ?_) (a' := ?_) #[true, false, true, false, true, false, false, false, false, false] rfl rfl (by kernel_rfl) (fun _ _ _ h => h) (Or.inl ⟨by rfl, ?_⟩) ?_ ?_
  rotate_left
  · intro w'
    go_simp
    with_reducible rfl
  rotate_left
  · simp only [Act.put, List.setIfInBounds_toArray, List.set_cons_zero, List.set_cons_succ, i64_w, i32_w]
    rfl
  refine take_ (i := 1) (N := some 14) (v := ?_) (a' := ?_) #[true, true, true, false, true, false, false, false, false, false] rfl rfl (by kernel_rfl) (fun _ _ _ h => h) (Or.inl ⟨by rfl, ?_⟩) hHeld ?_ ?_
  rotate_left
  · rintro w' ⟨s0, s1, s2, s3⟩
    refine exec_load_two (.tmp 13) ?_ (w.heap.size) ?_ s A n c x y z u s0 <;> rfl
  rotate_left
  · simp only [Act.put, List.setIfInBounds_toArray, List.set_cons_zero, List.set_cons_succ, i64_w, i32_w]
    rfl
  refine take_ (i := 3) (N := some 16) (v := ?_) (a' := ?_) #[true, true, true, true, true, false, false, false, false, false] rfl rfl (by kernel_rfl) (fun _ _ _ h => h) (Or.inl ⟨by rfl, ?_⟩) hHeld ?_ ?_
  rotate_left
  · rintro w' ⟨s0, s1, s2, s3⟩
    have zc := (bkCell s0 13).trans (twz s A n c x y z u).1
    clear s0 s1 s2 s3
    go_simp
    with_reducible rfl
  rotate_left
  · simp only [Act.put, List.setIfInBounds_toArray, List.set_cons_zero, List.set_cons_succ, i64_w, i32_w]
    rfl
  refine take_ (i := 5) (N := some 18) (v := ?_) (a' := ?_) #[true, true, true, true, true, true, false, false, false, false] rfl rfl (by kernel_rfl) (fun _ _ _ h => h) (Or.inl ⟨by rfl, ?_⟩) hHeld ?_ ?_
  rotate_left
  · rintro w' ⟨s0, s1, s2, s3⟩
    have zc := (bkCell s0 14).trans (twz s A n c x y z u).2
    clear s0 s1 s2 s3
    go_simp
    with_reducible rfl
  rotate_left
  · simp only [Act.put, List.setIfInBounds_toArray, List.set_cons_zero, List.set_cons_succ, i64_w, i32_w]
    rfl
  refine one_ (i := 6) (N := some 5) #[true, true, true, true, true, true, true, false, false, false] rfl rfl (by kernel_rfl) (by decide) (fun K hK => ?_)
  obtain ⟨s0, s1, s2, s3⟩ := hHeld
  refine value_ (w1 := ?_) (v := ?_) (by rfl) rfl ?_ ?_
  rotate_left 2
  · go_simp
    constructor
    · rfl
    · rfl
  refine hK.out _ _ ⟨bkAlloc s0 _, bkAlloc s1 _, s2.later ((Below.refl _ _).alloc (Nat.le_refl _) _), bdT s3 s3.size ((Below.refl _ _).alloc (Nat.le_refl _) _)⟩ (fun hHeld => ?_)
  clear hK K
  refine norm_ (a' := ?_) ?_ ?_
  rotate_left
  · show Act.put _ (some 5) _ = _
    simp only [Act.put, List.setIfInBounds_toArray, List.set_cons_zero, List.set_cons_succ, i64_w, i32_w]
    rfl
  refine one_ (i := 7) (N := none) #[true, true, true, true, true, true, true, true, false, false] rfl rfl (by kernel_rfl) (by decide) (fun K hK => ?_)
  obtain ⟨s0, s1, s2, s3⟩ := hHeld
  refine skip_ (w1 := ?_) (by rfl) rfl ?_ ?_
  rotate_left
  · refine exec_store_row 31 (.tmp 5) (.tmp 14) ?_ (w0.heap.size) (s.cs A n c) ?_ ?_ 31 _ (bkDrew (heap_alloc_new w0 (Obj.cells #[Value.string ⟨#[]⟩, Value.slice none 0 0, iv 0, iv 0, iv 0, iv 0, iv 0, iv 0, iv 0, iv 0, iv 0, iv 0, iv 0] 31))) (S.i24 _ _ _ _) (S.sz S.zero _ none _ 0 0 _ _) (S.one _ _ _ _) <;> rfl
  refine hK.out _ _ ⟨bkBelow P0.out (below_setRow (((Below.refl w0.heap.size w0).alloc (Nat.le_refl _) _).drew) (g := w0.heap.size) (Nat.le_refl _) _), bkBelow Q0.out (below_setRow (((Below.refl w0.heap.size w0).alloc (Nat.le_refl _) _).drew) (g := w0.heap.size) (Nat.le_refl _) _), D0.out.later (below_setRow (((Below.refl w0.heap.size w0).alloc (Nat.le_refl _) _).drew) (g := w0.heap.size) (Nat.le_refl _) _), bdT B0 B0.size (below_setRow (((Below.refl w0.heap.size w0).alloc (Nat.le_refl _) _).drew) (g := w0.heap.size) (Nat.le_refl _) _)⟩ (fun hHeld => ?_)
  clear hK K
  refine pure_ (i := 8) (N := some 6) (v := ?_) (a' := ?_) #[true, true, true, true, true, true, true, true, true, false] rfl rfl (by kernel_rfl) (fun _ _ _ h => h) (Or.inl ⟨by rfl, ?_⟩) ?_ ?_
  rotate_left
  · intro w'
    go_simp
    with_reducible rfl
  rotate_left
  · simp only [Act.put, List.setIfInBounds_toArray, List.set_cons_zero, List.set_cons_succ, i64_w, i32_w]
    rfl
  refine pure_ (i := 9) (N := some 7) (v := ?_) (a' := ?_) #[true, true, true, true, true, true, true, true, true, true] rfl rfl (by kernel_rfl) (fun _ _ _ h => h) (Or.inl ⟨by rfl, ?_⟩) ?_ ?_
  rotate_left
  · intro w'
    go_simp
    with_reducible rfl
  rotate_left
  · simp only [Act.put, List.setIfInBounds_toArray, List.set_cons_zero, List.set_cons_succ, i64_w, i32_w]
    rfl
  refine done_ (by kernel_rfl) ?_
  obtain ⟨s0, s1, s2, s3⟩ := hHeld
  have P1 := Lib.hid s0
  have Q1 := Lib.hid s1
  have D1 := Lib.hid s2
  have B1 := s3
  have S1 := Lib.hid (setRow_heap _ _ _ (s.cs A n c) _ _ (bkDrew (heap_alloc_new w0 (Obj.cells #[Value.string ⟨#[]⟩, Value.slice none 0 0, iv 0, iv 0, iv 0, iv 0, iv 0, iv 0, iv 0, iv 0, iv 0, iv 0, iv 0] 31))))
  clear s0 s1 s2 s3 P0 Q0 D0
  generalize ((w0.alloc (Obj.cells #[Value.string ⟨#[]⟩, Value.slice none 0 0, iv 0, iv 0, iv 0, iv 0, iv 0, iv 0, iv 0, iv 0, iv 0, iv 0, iv 0] 31)).drew.setRow w0.heap.size (s.cs A n c)) = w1 at *
  go_wp2_with (first
    | (refine wpList_load_row rfl 31 (.tmp 5) rfl (w0.heap.size) rfl 31 _ (0, 0) _ S1.out Try.underlying31 rfl (S.i24 _ _ _ _) ?_)
    | (go_at_call 32; (with_reducible refine (T1.out _).mono ?_); rintro e w2 ⟨rfl, hb2⟩; have P2 := Lib.hid (bkBelow P1.out hb2); have Q2 := Lib.hid (bkBelow Q1.out hb2); have S2 := Lib.hid (bkBelow S1.out hb2); have D2 := Lib.hid (D1.out.later hb2); have B2 := bdT B1 B1.size hb2; clear P1 Q1 S1 D1)
    | (refine gdOn (by rfl) ?_; refine wpList_load_row rfl 31 (.tmp 5) rfl (w0.heap.size) rfl 31 _ (0, 0) _ S2.out Try.underlying31 rfl (S.i24 _ _ _ _) ?_)
    | (go_at_call 33; (with_reducible refine (VC.out _ D2.out).mono ?_); rintro e w3 ⟨rfl, hb3⟩; have P3 := Lib.hid (bkBelow P2.out hb3); have Q3 := Lib.hid (bkBelow Q2.out hb3); have S3 := Lib.hid (bkBelow S2.out hb3); have D3 := Lib.hid (D2.out.later hb3); have B3 := bdT B2 B2.size hb3; clear P2 Q2 S2 D2))
  go_ret
  exact ⟨rfl, B3⟩
set_option maxHeartbeats 16000000 in
set_option maxRecDepth 100000 in
theorem least_ok (s : S) (A : Option Addr) (n c b o : Nat) (xs : Nat → Int) (x y z u p q : Int) (h1 : decide (n ≤ 5000 ∧ s.nm.size ≤ 100) = true) (hv : vS s n xs = true) (wi L : Nat) (hx : x = wi) (hy : y = L) (k1 : 1 ≤ wi) (k2 : wi ≤ 256) (k3 : 1 ≤ L) (k4 : L ≤ 4096) (hp : -9223372036854775808 ≤ p ∧ p ≤ 9223372036854775807) (hq : -9223372036854775808 ≤ q ∧ q ≤ 9223372036854775807) (hn : n ≤ 9223372036854775807) (hc : n ≤ c) (w : World) (hA : DataAt w A n b o xs) : Calls Try.prog 4 #[.agg (twv s A n c x y z u), .agg #[iv p, iv q]] w fun e w' => e = .returned (.bool true) ∧ Below w.heap.size w w' := by
  have B0 : Below w.heap.size w ((w.alloc (Obj.cells (twv s A n c x y z u) 33)).alloc (Obj.cells #[iv p, iv q] 34)) := ((Below.refl _ _).alloc (Nat.le_refl _) _).alloc (by simp) _
  have P0 := Lib.hid (heap_alloc2_old w (Obj.cells (twv s A n c x y z u) 33) (Obj.cells #[iv p, iv q] 34))
  have Q0 := Lib.hid (heap_alloc2_new w (Obj.cells (twv s A n c x y z u) 33) (Obj.cells #[iv p, iv q] 34))
  have D0 := Lib.hid (hA.later B0)
  have T1 := Lib.hid fun (W : World) => tame_any s A n c W
  have VC := Lib.hid fun (W : World) (h : DataAt W A n b o xs) => rvalid_any s A n c b o xs hn hc W h
  have hn4 := (vS_yes hv).2.2.1
  have hfb := frB_of hv
  have FC := Lib.hid fun (W : World) (h : DataAt W A n b o xs) => find_any s A n c b o xs wi L hv k1 k2 k3 k4 hc W h
  have AC := Lib.hid fun (W : World) (x y : Int) (hx : -9223372036854775808 ≤ x ∧ x ≤ 9223372036854775807) (hy : -9223372036854775808 ≤ y ∧ y ≤ 9223372036854775807) => allowed_any s A n c wi (L : Int) x y k2 (by omega) (by omega) hx hy W
  have DC := Lib.hid fun (W : World) (h : DataAt W A n b o xs) (x y : Nat) (h1 : x + wi ≤ n) (h2 : y + wi ≤ n) => diff_any s A n c b o xs wi x y k1 k2 (by omega) h1 h2 hfb W h
  rw [← hx, ← hy] at FC
  rw [← hx, ← hy] at AC
  rw [← hx] at DC
  have HXY := Lib.hid (And.intro hx hy)
  have HPQ := Lib.hid (And.intro hp hq)
  have HK := Lib.hid (And.intro k1 (And.intro k3 hn4))
  rw [h1] at T1
  rw [hv] at VC
  have d1 : decide (x < 1) = false := decide_eq_false (by omega)
  have d2 : decide (256 < x) = false := decide_eq_false (by omega)
  have d3 : decide (y < 1) = false := decide_eq_false (by omega)
  have d4 : decide (4096 < y) = false := decide_eq_false (by omega)
  clear hx hy h1 hv hA hfb hn4 hp hq k1 k2 k3 k4 hn hc
  go_enter Try.func4, Try.ntmps4
  go_upto_region 1 with (fail)
  generalize ((w.alloc (Obj.cells (twv s A n c x y z u) 33)).alloc (Obj.cells #[iv p, iv q] 34)) = w0 at *
  refine start_ (n := 10) (S := fun w' => w'.heap[w.heap.size]? = some (.cells (twv s A n c x y z u) 33 (0, 0)) ∧ w'.heap[w.heap.size + 1]? = some (.cells #[iv p, iv q] 34 (0, 0)) ∧ DataAt w' A n b o xs ∧ Below w.heap.size w w') (ds := []) #[false, false, false, false, false, false, false, false, false, false] (by kernel_rfl) rfl rfl ⟨P0.out, Q0.out, ⟨D0.out.top, D0.out.low, D0.out.cell⟩, B0.drew⟩ (fun hHeld => ?_)
  refine pure_ (i := 0) (N := some 13) (v := ?_) (a' := ?_) #[true, false, false, false, false, false, false, false, false, false] rfl rfl (by kernel_rfl) (fun _ _ _ h => h) (Or.inl ⟨by rfl, ?_⟩) ?_ ?_
  rotate_left
  · intro w'
    go_simp
    with_reducible rfl
  rotate_left
  · simp only [Act.put, List.setIfInBounds_toArray, List.set_cons_zero, List.set_cons_succ, i64_w, i32_w]
    rfl
  refine pure_ (i := 2) (N := some 15) (v := ?_) (a' := ?_) #[true, false, true, false, false, false, false, false, false, false] rfl rfl (by kernel_rfl) (fun _ _ _ h => h) (Or.inl ⟨by rfl, ?_⟩) ?_ ?_
  rotate_left
  · intro w'
    go_simp
    with_reducible rfl
  rotate_left
  · simp only [Act.put, List.setIfInBounds_toArray, List.set_cons_zero, List.set_cons_succ, i64_w, i32_w]
    rfl
  refine pure_ (i := 4) (N := some 17) (v := ?_) (a' := ?_) #[true, false, true, false, true, false, false, false, false, false] rfl rfl (by kernel_rfl) (fun _ _ _ h => h) (Or.inl ⟨by rfl, ?_⟩) ?_ ?_
  rotate_left
  · intro w'
    go_simp
    with_reducible rfl
  rotate_left
  · simp only [Act.put, List.setIfInBounds_toArray, List.set_cons_zero, List.set_cons_succ, i64_w, i32_w]
    rfl
  refine take_ (i := 1) (N := some 14) (v := ?_) (a' := ?_) #[true, true, true, false, true, false, false, false, false, false] rfl rfl (by kernel_rfl) (fun _ _ _ h => h) (Or.inl ⟨by rfl, ?_⟩) hHeld ?_ ?_
  rotate_left
  · rintro w' ⟨s0, s1, s2, s3⟩
    refine exec_load_two (.tmp 13) ?_ (w.heap.size) ?_ s A n c x y z u s0 <;> rfl
  rotate_left
  · simp only [Act.put, List.setIfInBounds_toArray, List.set_cons_zero, List.set_cons_succ, i64_w, i32_w]
    rfl
  refine take_ (i := 3) (N := some 16) (v := ?_) (a' := ?_) #[true, true, true, true, true, false, false, false, false, false] rfl rfl (by kernel_rfl) (fun _ _ _ h => h) (Or.inl ⟨by rfl, ?_⟩) hHeld ?_ ?_
  rotate_left
  · rintro w' ⟨s0, s1, s2, s3⟩
    have zc := (bkCell s0 13).trans (twz s A n c x y z u).1
    clear s0 s1 s2 s3
    go_simp
    with_reducible rfl
  rotate_left
  · simp only [Act.put, List.setIfInBounds_toArray, List.set_cons_zero, List.set_cons_succ, i64_w, i32_w]
    rfl
  refine take_ (i := 5) (N := some 18) (v := ?_) (a' := ?_) #[true, true, true, true, true, true, false, false, false, false] rfl rfl (by kernel_rfl) (fun _ _ _ h => h) (Or.inl ⟨by rfl, ?_⟩) hHeld ?_ ?_
  rotate_left
  · rintro w' ⟨s0, s1, s2, s3⟩
    have zc := (bkCell s0 14).trans (twz s A n c x y z u).2
    clear s0 s1 s2 s3
    go_simp
    with_reducible rfl
  rotate_left
  · simp only [Act.put, List.setIfInBounds_toArray, List.set_cons_zero, List.set_cons_succ, i64_w, i32_w]
    rfl
  refine one_ (i := 6) (N := some 5) #[true, true, true, true, true, true, true, false, false, false] rfl rfl (by kernel_rfl) (by decide) (fun K hK => ?_)
  obtain ⟨s0, s1, s2, s3⟩ := hHeld
  refine value_ (w1 := ?_) (v := ?_) (by rfl) rfl ?_ ?_
  rotate_left 2
  · go_simp
    constructor
    · rfl
    · rfl
  refine hK.out _ _ ⟨bkAlloc s0 _, bkAlloc s1 _, s2.later ((Below.refl _ _).alloc (Nat.le_refl _) _), bdT s3 s3.size ((Below.refl _ _).alloc (Nat.le_refl _) _)⟩ (fun hHeld => ?_)
  clear hK K
  refine norm_ (a' := ?_) ?_ ?_
  rotate_left
  · show Act.put _ (some 5) _ = _
    simp only [Act.put, List.setIfInBounds_toArray, List.set_cons_zero, List.set_cons_succ, i64_w, i32_w]
    rfl
  refine one_ (i := 7) (N := none) #[true, true, true, true, true, true, true, true, false, false] rfl rfl (by kernel_rfl) (by decide) (fun K hK => ?_)
  obtain ⟨s0, s1, s2, s3⟩ := hHeld
  refine skip_ (w1 := ?_) (by rfl) rfl ?_ ?_
  rotate_left
  · refine exec_store_row 31 (.tmp 5) (.tmp 14) ?_ (w0.heap.size) (s.cs A n c) ?_ ?_ 31 _ (bkDrew (heap_alloc_new w0 (Obj.cells #[Value.string ⟨#[]⟩, Value.slice none 0 0, iv 0, iv 0, iv 0, iv 0, iv 0, iv 0, iv 0, iv 0, iv 0, iv 0, iv 0] 31))) (S.i24 _ _ _ _) (S.sz S.zero _ none _ 0 0 _ _) (S.one _ _ _ _) <;> rfl
  refine hK.out _ _ ⟨bkBelow P0.out (below_setRow (((Below.refl w0.heap.size w0).alloc (Nat.le_refl _) _).drew) (g := w0.heap.size) (Nat.le_refl _) _), bkBelow Q0.out (below_setRow (((Below.refl w0.heap.size w0).alloc (Nat.le_refl _) _).drew) (g := w0.heap.size) (Nat.le_refl _) _), D0.out.later (below_setRow (((Below.refl w0.heap.size w0).alloc (Nat.le_refl _) _).drew) (g := w0.heap.size) (Nat.le_refl _) _), bdT B0 B0.size (below_setRow (((Below.refl w0.heap.size w0).alloc (Nat.le_refl _) _).drew) (g := w0.heap.size) (Nat.le_refl _) _)⟩ (fun hHeld => ?_)
  clear hK K
  refine pure_ (i := 8) (N := some 6) (v := ?_) (a' := ?_) #[true, true, true, true, true, true, true, true, true, false] rfl rfl (by kernel_rfl) (fun _ _ _ h => h) (Or.inl ⟨by rfl, ?_⟩) ?_ ?_
  rotate_left
  · intro w'
    go_simp
    with_reducible rfl
  rotate_left
  · simp only [Act.put, List.setIfInBounds_toArray, List.set_cons_zero, List.set_cons_succ, i64_w, i32_w]
    rfl
  refine pure_ (i := 9) (N := some 7) (v := ?_) (a' := ?_) #[true, true, true, true, true, true, true, true, true, true] rfl rfl (by kernel_rfl) (fun _ _ _ h => h) (Or.inl ⟨by rfl, ?_⟩) ?_ ?_
  rotate_left
  · intro w'
    go_simp
    with_reducible rfl
  rotate_left
  · simp only [Act.put, List.setIfInBounds_toArray, List.set_cons_zero, List.set_cons_succ, i64_w, i32_w]
    rfl
  refine done_ (by kernel_rfl) ?_
  obtain ⟨s0, s1, s2, s3⟩ := hHeld
  have P1 := Lib.hid s0
  have Q1 := Lib.hid s1
  have D1 := Lib.hid s2
  have B1 := s3
  have S1 := Lib.hid (setRow_heap _ _ _ (s.cs A n c) _ _ (bkDrew (heap_alloc_new w0 (Obj.cells #[Value.string ⟨#[]⟩, Value.slice none 0 0, iv 0, iv 0, iv 0, iv 0, iv 0, iv 0, iv 0, iv 0, iv 0, iv 0, iv 0] 31))))
  clear s0 s1 s2 s3 P0 Q0 D0
  generalize ((w0.alloc (Obj.cells #[Value.string ⟨#[]⟩, Value.slice none 0 0, iv 0, iv 0, iv 0, iv 0, iv 0, iv 0, iv 0, iv 0, iv 0, iv 0, iv 0] 31)).drew.setRow w0.heap.size (s.cs A n c)) = w1 at *
  go_upto_region 4 with (first
    | (refine wpList_load_row rfl 31 (.tmp 5) rfl (w0.heap.size) rfl 31 _ (0, 0) _ S1.out Try.underlying31 rfl (S.i24 _ _ _ _) ?_)
    | (go_at_call 32; (with_reducible refine (T1.out _).mono ?_); rintro e w2 ⟨rfl, hb2⟩; have P2 := Lib.hid (bkBelow P1.out hb2); have Q2 := Lib.hid (bkBelow Q1.out hb2); have S2 := Lib.hid (bkBelow S1.out hb2); have D2 := Lib.hid (D1.out.later hb2); have B2 := bdT B1 B1.size hb2; clear P1 Q1 S1 D1)
    | (refine gdOn (by rfl) ?_; refine wpList_load_row rfl 31 (.tmp 5) rfl (w0.heap.size) rfl 31 _ (0, 0) _ S2.out Try.underlying31 rfl (S.i24 _ _ _ _) ?_)
    | (go_at_call 33; (with_reducible refine (VC.out _ D2.out).mono ?_); rintro e w3 ⟨rfl, hb3⟩; have P3 := Lib.hid (bkBelow P2.out hb3); have Q3 := Lib.hid (bkBelow Q2.out hb3); have S3 := Lib.hid (bkBelow S2.out hb3); have D3 := Lib.hid (D2.out.later hb3); have B3 := bdT B2 B2.size hb3; clear P2 Q2 S2 D2))
  clear d1 d2 d3 d4
  go_upto_region 5 with (first
    | (refine wpList_load_row rfl 31 (.tmp 5) rfl (w0.heap.size) rfl 31 _ (0, 0) _ S3.out Try.underlying31 rfl (S.i24 _ _ _ _) ?_)
    | (go_at_call 34; (with_reducible refine (FC.out _ D3.out).mono ?_); rintro e w4 ⟨st, en, be, er, rfl, HR, hb4⟩; have P4 := Lib.hid (bkBelow P3.out hb4); have Q4 := Lib.hid (bkBelow Q3.out hb4); have S4 := Lib.hid (bkBelow S3.out hb4); have D4 := Lib.hid (D3.out.later hb4); have B4 := bdT B3 B3.size hb4; clear P3 Q3 S3 D3; have HR := Lib.hid HR))
  have u0 := (bkCell Q4.out 0).trans (show (#[iv p, iv q] : Array Value)[0]? = some (iv p) from rfl)
  have u1 := (bkCell Q4.out 1).trans (show (#[iv p, iv q] : Array Value)[1]? = some (iv q) from rfl)
  go_upto_region 6 with (first
    | (refine wpList_load_row rfl 31 (.tmp 5) rfl (w0.heap.size) rfl 31 _ (0, 0) _ S4.out Try.underlying31 rfl (S.i24 _ _ _ _) ?_)
    | (go_at_call 35; (with_reducible refine (AC.out _ p q HPQ.out.1 HPQ.out.2).mono ?_); rintro e w5 ⟨rfl, hb5⟩; have P5 := Lib.hid (bkBelow P4.out hb5); have Q5 := Lib.hid (bkBelow Q4.out hb5); have S5 := Lib.hid (bkBelow S4.out hb5); have D5 := Lib.hid (D4.out.later hb5); have B5 := bdT B4 B4.size hb5; clear P4 Q4 S4 D4))
  clear u0 u1
  rcases HR.out with ⟨e7, hno⟩ | ⟨e0, hbe, p1, q1, hst, hen, hAl, hD, hall⟩
  · subst e7
    have ha : alB n wi y p q = false := by
      rw [HXY.out.2]
      cases h : alB n wi L p q
      · rfl
      · obtain ⟨p', q', _, _, h3⟩ := alB_yes HK.out.2.1 h
        exact absurd h3 (hno _ _)
    rw [ha]
    clear ha hno HR
    go_wp2
    go_ret
    exact ⟨rfl, B5⟩
  · subst e0 hst hen
    have hl1 := HK.out.2.1
    have hn4 := HK.out.2.2
    have hq1 := hAl.2.2.2
    have hp1 := hAl.2.2.1
    have A8 := Lib.hid fun (W : World) => (show Calls Try.prog 35 #[.agg (s.cs A n c), iv x, iv y, iv p1, iv q1] W fun e w' => e = .returned (.bool true) ∧ Below W.heap.size W w' from by
      have h := AC.out W p1 q1 (by omega) (by omega)
      rwa [HXY.out.2, alB_of hl1 hAl, ← HXY.out.2] at h)
    have D8 := Lib.hid fun (W : World) (h : DataAt W A n b o xs) => (show Calls Try.prog 36 #[.agg (s.cs A n c), iv x, iv p1, iv q1] W fun e w' => e = .returned (iv be) ∧ Below W.heap.size W w' from by
      have h2 := DC.out W h p1 q1 (by omega) (by omega)
      rwa [show dsm (win xs p1) (win xs q1) wi = be from hD] at h2)
    have HALL := Lib.hid hall
    have HBE := Lib.hid hbe
    have eb : (be != be) = false := by simp
    clear hall hAl hD hq1 hp1 HR
    cases hok : alB n wi y p q
    · clear hl1 hn4 hok
      go_upto_region 10 with (first
        | (refine wpList_load_row rfl 31 (.tmp 5) rfl (w0.heap.size) rfl 31 _ (0, 0) _ S5.out Try.underlying31 rfl (S.i24 _ _ _ _) ?_)
        | (go_at_call 35; (with_reducible refine (A8.out _).mono ?_); rintro e w6 ⟨rfl, hb6⟩; have P6 := Lib.hid (bkBelow P5.out hb6); have Q6 := Lib.hid (bkBelow Q5.out hb6); have S6 := Lib.hid (bkBelow S5.out hb6); have D6 := Lib.hid (D5.out.later hb6); have B6 := bdT B5 B5.size hb6; clear P5 Q5 S5 D5)
        | (refine gdOn (by rfl) ?_; refine wpList_load_row rfl 31 (.tmp 5) rfl (w0.heap.size) rfl 31 _ (0, 0) _ S6.out Try.underlying31 rfl (S.i24 _ _ _ _) ?_)
        | (go_at_call 36; (with_reducible refine (D8.out _ D6.out).mono ?_); rintro e w7 ⟨rfl, hb7⟩; have P7 := Lib.hid (bkBelow P6.out hb7); have Q7 := Lib.hid (bkBelow Q6.out hb7); have S7 := Lib.hid (bkBelow S6.out hb7); have D7 := Lib.hid (D6.out.later hb7); have B7 := bdT B6 B6.size hb7; clear P6 Q6 S6 D6))
      clear eb
      go_wp2
      go_ret
      exact ⟨rfl, B7⟩
    · rw [HXY.out.2] at hok
      obtain ⟨p2, q2, hp2, hq2, h3⟩ := alB_yes hl1 hok
      subst hp2 hq2
      have hq3 := h3.2.2.2
      have hp3 := h3.2.2.1
      have hle := HALL.out _ _ h3
      have D10 := Lib.hid fun (W : World) (h : DataAt W A n b o xs) => (show Calls Try.prog 36 #[.agg (s.cs A n c), iv x, iv p2, iv q2] W fun e w' => e = .returned (iv (DD xs wi p2 q2)) ∧ Below W.heap.size W w' from DC.out W h p2 q2 (by omega) (by omega))
      generalize DD xs wi p2 q2 = V at *
      have hge : decide (be ≤ V) = true := decide_eq_true hle
      clear hl1 hn4 hok h3 hq3 hp3 hle
      go_upto_region 10 with (first
        | (refine wpList_load_row rfl 31 (.tmp 5) rfl (w0.heap.size) rfl 31 _ (0, 0) _ S5.out Try.underlying31 rfl (S.i24 _ _ _ _) ?_)
        | (go_at_call 35; (with_reducible refine (A8.out _).mono ?_); rintro e w6 ⟨rfl, hb6⟩; have P6 := Lib.hid (bkBelow P5.out hb6); have Q6 := Lib.hid (bkBelow Q5.out hb6); have S6 := Lib.hid (bkBelow S5.out hb6); have D6 := Lib.hid (D5.out.later hb6); have B6 := bdT B5 B5.size hb6; clear P5 Q5 S5 D5)
        | (refine gdOn (by rfl) ?_; refine wpList_load_row rfl 31 (.tmp 5) rfl (w0.heap.size) rfl 31 _ (0, 0) _ S6.out Try.underlying31 rfl (S.i24 _ _ _ _) ?_)
        | (go_at_call 36; (with_reducible refine (D8.out _ D6.out).mono ?_); rintro e w7 ⟨rfl, hb7⟩; have P7 := Lib.hid (bkBelow P6.out hb7); have Q7 := Lib.hid (bkBelow Q6.out hb7); have S7 := Lib.hid (bkBelow S6.out hb7); have D7 := Lib.hid (D6.out.later hb7); have B7 := bdT B6 B6.size hb7; clear P6 Q6 S6 D6))
      clear eb
      have u0 := (bkCell Q7.out 0).trans (show (#[iv p2, iv q2] : Array Value)[0]? = some (iv p2) from rfl)
      have u1 := (bkCell Q7.out 1).trans (show (#[iv p2, iv q2] : Array Value)[1]? = some (iv q2) from rfl)
      go_wp2_with (first
        | (refine gdOn (by rfl) ?_; refine wpList_load_row rfl 31 (.tmp 5) rfl (w0.heap.size) rfl 31 _ (0, 0) _ S7.out Try.underlying31 rfl (S.i24 _ _ _ _) ?_)
        | (go_at_call 36; (with_reducible refine (D10.out _ D7.out).mono ?_); rintro e w8 ⟨rfl, hb8⟩; have P8 := Lib.hid (bkBelow P7.out hb8); have Q8 := Lib.hid (bkBelow Q7.out hb8); have S8 := Lib.hid (bkBelow S7.out hb8); have D8 := Lib.hid (D7.out.later hb8); have B8 := bdT B7 B7.size hb8; clear P7 Q7 S7 D7))
      go_ret
      exact ⟨rfl, B8⟩
theorem least_law (s : S) (A : Option Addr) (n c : Nat) (zs : List Int) (x y z u p q : Int) (w : World) (hp : -9223372036854775808 ≤ p ∧ p ≤ 9223372036854775807) (hq : -9223372036854775808 ≤ q ∧ q ≤ 9223372036854775807) (h : RowOf w A n c zs) : Calls Try.prog 4 #[.agg (twv s A n c x y z u), .agg #[iv p, iv q]] w fun e w' => e = .returned (.bool true) ∧ Below w.heap.size w w' := by
  obtain ⟨k1, hn, b, o, d1⟩ := dataOf h
  cases h1 : decide (n ≤ 5000 ∧ s.nm.size ≤ 100)
  · exact least_wild s A n c b o _ x y z u p q h1 hn k1 w d1
  cases hv : vS s n (fun i => zs.getD i 0)
  · exact least_bad s A n c b o _ x y z u p q h1 hv hn k1 w d1
  by_cases q1 : x < 1
  · exact least_r0 s A n c b o _ x y z u p q h1 hv q1 hn k1 w d1
  by_cases q2 : 256 < x
  · exact least_r1 s A n c b o _ x y z u p q h1 hv (by omega) q2 hn k1 w d1
  by_cases q3 : y < 1
  · exact least_r2 s A n c b o _ x y z u p q h1 hv (by omega) (by omega) q3 hn k1 w d1
  by_cases q4 : 4096 < y
  · exact least_r3 s A n c b o _ x y z u p q h1 hv (by omega) (by omega) (by omega) q4 hn k1 w d1
  exact least_ok s A n c b o _ x y z u p q h1 hv x.toNat y.toNat (by omega) (by omega) (by omega) (by omega) (by omega) (by omega) hp hq hn k1 w d1
end Go.Proofs.Ytfodpoccjdaaaaa.SX

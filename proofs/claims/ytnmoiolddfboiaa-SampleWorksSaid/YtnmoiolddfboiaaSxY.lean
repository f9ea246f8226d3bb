/- A sample of other bits. -/
import Derived.Test.YtnmoiolddfboiaaSxX
namespace Go.Proofs.Ytnmoiolddfboiaa.SX
open Go.RowKit Go.Proofs.YtnmoiolddfboiaaW.PrintLast Go.Proofs.Ytnmoiolddfboiaa.TX Go.Proofs.Ytnmoiolddfboiaa.Cu
set_option linter.unusedVariables false
set_option linter.unusedSimpArgs false
/-- a row of numbers, the first j of them changed -/
def upF (G : Int → Int) (xs : Nat → Int) (j i : Nat) : Int := if i < j then G (xs i) else xs i
theorem upF_zero (G : Int → Int) (xs : Nat → Int) : upF G xs 0 = xs := by funext i; exact if_neg (by omega)
theorem upF_at (G : Int → Int) (xs : Nat → Int) (j : Nat) : upF G xs j j = xs j := if_neg (by omega)
theorem upF_end (G : Int → Int) (xs : Nat → Int) (n : Nat) : rw_ (upF G xs n) n = rw_ (fun i => G (xs i)) n := rw_congr fun i hi => if_pos hi
theorem upF_step (G : Int → Int) (xs : Nat → Int) (N j : Nat) : rw_ (fun i => if i = j then G (xs j) else upF G xs j i) N = rw_ (upF G xs (j + 1)) N := by
  refine rw_congr fun i hi => ?_
  unfold upF
  by_cases e : i = j
  · subst e
    rw [if_pos rfl, if_pos (by omega)]
  · rw [if_neg e]
    by_cases h : i < j
    · rw [if_pos h, if_pos (by omega)]
    · rw [if_neg h, if_neg (by omega)]
theorem upF_same {G : Int → Int} {xs : Nat → Int} {j : Nat} (h : G (xs j) = xs j) (N : Nat) : rw_ (upF G xs j) N = rw_ (upF G xs (j + 1)) N := by
  refine rw_congr fun i hi => ?_
  unfold upF
  by_cases e : i = j
  · subst e
    rw [if_neg (by omega), if_pos (by omega), h]
  · by_cases h : i < j
    · rw [if_pos h, if_pos (by omega)]
    · rw [if_neg h, if_neg (by omega)]
set_option maxHeartbeats 16000000 in
set_option maxRecDepth 100000 in
theorem sconv_bad (s : S) (A : Option Addr) (n c0 b o : Nat) (xs : Nat → Int) (bits : Int) (hv : vS s n xs = false) (hn : n ≤ 9223372036854775807) (hc0 : n ≤ c0) (w : World) (hA : DataAt w A n b o xs) : Gives 34 #[.agg (s.cs A n c0), iv bits] w S.zero 0 (fun _ => 0) 1 := by
  unfold Gives
  have H0 := Lib.hid (show ((w.alloc (Obj.cells (s.cs A n c0) 24)).alloc (Obj.cells #[Value.string ⟨#[]⟩, Value.slice none 0 0, iv 0, iv 0, iv 0, iv 0, iv 0, iv 0, iv 0, iv 0, iv 0, iv 0, iv 0] 24)).heap[w.heap.size + 1]? = some (.cells (S.zero.cs none 0 0) 24 (0, 0)) from heap_alloc2_new w (Obj.cells (s.cs A n c0) 24) (Obj.cells #[Value.string ⟨#[]⟩, Value.slice none 0 0, iv 0, iv 0, iv 0, iv 0, iv 0, iv 0, iv 0, iv 0, iv 0, iv 0, iv 0] 24))
  have B0 : Below w.heap.size w ((w.alloc (Obj.cells (s.cs A n c0) 24)).alloc (Obj.cells #[Value.string ⟨#[]⟩, Value.slice none 0 0, iv 0, iv 0, iv 0, iv 0, iv 0, iv 0, iv 0, iv 0, iv 0, iv 0, iv 0] 24)) := ((Below.refl _ _).alloc (Nat.le_refl _) _).alloc (by simp) _
  have P0 := Lib.hid (show ((w.alloc (Obj.cells (s.cs A n c0) 24)).alloc (Obj.cells #[Value.string ⟨#[]⟩, Value.slice none 0 0, iv 0, iv 0, iv 0, iv 0, iv 0, iv 0, iv 0, iv 0, iv 0, iv 0, iv 0] 24)).heap[w.heap.size]? = some (.cells (s.cs A n c0) 24 (0, 0)) from heap_alloc2_old w _ _)
  have D0 := Lib.hid (hA.later B0)
  have VC := Lib.hid (show ∀ (W : World), DataAt W A n b o xs → Calls Try.prog 15 #[.agg (s.cs A n c0)] W fun e w' => e = .returned (.bool false) ∧ Below W.heap.size W w' from fun W h => by have := valid_any s A n c0 b o xs hn hc0 W h; rwa [hv] at this)
  clear hA hv
  go_enter Try.func34, Try.ntmps34
  go_wp2_with (first
    | (refine wpList_load_row rfl 24 (.tmp 2) rfl (w.heap.size) rfl 24 _ (0, 0) _ P0.out Try.underlying24 rfl (S.i24 _ _ _ _) ?_)
    | (go_at_call 15; (with_reducible refine (VC.out _ D0.out).mono ?_); rintro e w1 ⟨rfl, hb1⟩; have P1 := Lib.hid (bkBelow P0.out hb1); have H1 := Lib.hid (bkBelow H0.out hb1); have D1 := Lib.hid (D0.out.later hb1); have B1 := bdT B0 B0.size hb1)
    | (refine wpBuild0 rfl 24 rfl (S.zero.cs none 0 0) built24 ?_)
    | (refine wpList_store_row rfl 24 (.tmp 4) (.tmp 11) rfl (w.heap.size + 1) (S.zero.cs none 0 0) rfl rfl 24 _ H1.out (S.i24 _ _ _ _) (S.sz S.zero S.zero none none 0 0 0 0) (S.one _ _ _ _) ?_))
  refine bodyPost_ret (res_ct rfl _ _ (w.heap.size + 1) 24 _ (0, 0) _ rfl (setRow_heap _ _ _ _ _ _ H1.out) Try.underlying24 rfl (S.i24 _ _ _ _)) rfl ⟨none, 0, rfl, own0, below_setRow B1 (by omega) _⟩
set_option maxHeartbeats 16000000 in
set_option maxRecDepth 100000 in
theorem sconv_rng (s : S) (A : Option Addr) (n c0 b o : Nat) (xs : Nat → Int) (bits : Int) (hv : vS s n xs = true) (h8 : ¬ bits = 8) (h16 : ¬ bits = 16) (hn : n ≤ 9223372036854775807) (hc0 : n ≤ c0) (w : World) (hA : DataAt w A n b o xs) : Gives 34 #[.agg (s.cs A n c0), iv bits] w S.zero 0 (fun _ => 0) 5 := by
  unfold Gives
  have H0 := Lib.hid (show ((w.alloc (Obj.cells (s.cs A n c0) 24)).alloc (Obj.cells #[Value.string ⟨#[]⟩, Value.slice none 0 0, iv 0, iv 0, iv 0, iv 0, iv 0, iv 0, iv 0, iv 0, iv 0, iv 0, iv 0] 24)).heap[w.heap.size + 1]? = some (.cells (S.zero.cs none 0 0) 24 (0, 0)) from heap_alloc2_new w (Obj.cells (s.cs A n c0) 24) (Obj.cells #[Value.string ⟨#[]⟩, Value.slice none 0 0, iv 0, iv 0, iv 0, iv 0, iv 0, iv 0, iv 0, iv 0, iv 0, iv 0, iv 0] 24))
  have B0 : Below w.heap.size w ((w.alloc (Obj.cells (s.cs A n c0) 24)).alloc (Obj.cells #[Value.string ⟨#[]⟩, Value.slice none 0 0, iv 0, iv 0, iv 0, iv 0, iv 0, iv 0, iv 0, iv 0, iv 0, iv 0, iv 0] 24)) := ((Below.refl _ _).alloc (Nat.le_refl _) _).alloc (by simp) _
  have P0 := Lib.hid (show ((w.alloc (Obj.cells (s.cs A n c0) 24)).alloc (Obj.cells #[Value.string ⟨#[]⟩, Value.slice none 0 0, iv 0, iv 0, iv 0, iv 0, iv 0, iv 0, iv 0, iv 0, iv 0, iv 0, iv 0] 24)).heap[w.heap.size]? = some (.cells (s.cs A n c0) 24 (0, 0)) from heap_alloc2_old w _ _)
  have D0 := Lib.hid (hA.later B0)
  have VC := Lib.hid (show ∀ (W : World), DataAt W A n b o xs → Calls Try.prog 15 #[.agg (s.cs A n c0)] W fun e w' => e = .returned (.bool true) ∧ Below W.heap.size W w' from fun W h => by have := valid_any s A n c0 b o xs hn hc0 W h; rwa [hv] at this)
  have e8 : (bits == 8) = false := by simp [h8]
  have x8 : (bits != 8) = true := by simp [h8]
  have e16 : (bits == 16) = false := by simp [h16]
  have x16 : (bits != 16) = true := by simp [h16]
  clear h8 h16
  clear hA hv
  go_enter Try.func34, Try.ntmps34
  go_wp2_with (first
    | (refine wpList_load_row rfl 24 (.tmp 2) rfl (w.heap.size) rfl 24 _ (0, 0) _ P0.out Try.underlying24 rfl (S.i24 _ _ _ _) ?_)
    | (go_at_call 15; (with_reducible refine (VC.out _ D0.out).mono ?_); rintro e w1 ⟨rfl, hb1⟩; have P1 := Lib.hid (bkBelow P0.out hb1); have H1 := Lib.hid (bkBelow H0.out hb1); have D1 := Lib.hid (D0.out.later hb1); have B1 := bdT B0 B0.size hb1)
    | (refine wpBuild0 rfl 24 rfl (S.zero.cs none 0 0) built24 ?_)
    | (refine wpList_store_row rfl 24 (.tmp 4) (.tmp 18) rfl (w.heap.size + 1) (S.zero.cs none 0 0) rfl rfl 24 _ H1.out (S.i24 _ _ _ _) (S.sz S.zero S.zero none none 0 0 0 0) (S.one _ _ _ _) ?_))
  refine bodyPost_ret (res_ct rfl _ _ (w.heap.size + 1) 24 _ (0, 0) _ rfl (setRow_heap _ _ _ _ _ _ H1.out) Try.underlying24 rfl (S.i24 _ _ _ _)) rfl ⟨none, 0, rfl, own0, below_setRow B1 (by omega) _⟩
set_option maxHeartbeats 16000000 in
set_option maxRecDepth 100000 in
theorem sconv_up (s : S) (A : Option Addr) (n c0 b o : Nat) (xs : Nat → Int)  (hv : vS s n xs = true) (ha2 : s.a2 = 8) (hn : n ≤ 9223372036854775807) (hc0 : n ≤ c0) (w : World) (hA : DataAt w A n b o xs) : Gives 34 #[.agg (s.cs A n c0), iv 16] w (cvS s 16) n (cvF s.a2 16 xs) 0 := by
  unfold Gives
  have H0 := Lib.hid (show ((w.alloc (Obj.cells (s.cs A n c0) 24)).alloc (Obj.cells #[Value.string ⟨#[]⟩, Value.slice none 0 0, iv 0, iv 0, iv 0, iv 0, iv 0, iv 0, iv 0, iv 0, iv 0, iv 0, iv 0] 24)).heap[w.heap.size + 1]? = some (.cells (S.zero.cs none 0 0) 24 (0, 0)) from heap_alloc2_new w (Obj.cells (s.cs A n c0) 24) (Obj.cells #[Value.string ⟨#[]⟩, Value.slice none 0 0, iv 0, iv 0, iv 0, iv 0, iv 0, iv 0, iv 0, iv 0, iv 0, iv 0, iv 0] 24))
  have B0 : Below w.heap.size w ((w.alloc (Obj.cells (s.cs A n c0) 24)).alloc (Obj.cells #[Value.string ⟨#[]⟩, Value.slice none 0 0, iv 0, iv 0, iv 0, iv 0, iv 0, iv 0, iv 0, iv 0, iv 0, iv 0, iv 0] 24)) := ((Below.refl _ _).alloc (Nat.le_refl _) _).alloc (by simp) _
  have P0 := Lib.hid (show ((w.alloc (Obj.cells (s.cs A n c0) 24)).alloc (Obj.cells #[Value.string ⟨#[]⟩, Value.slice none 0 0, iv 0, iv 0, iv 0, iv 0, iv 0, iv 0, iv 0, iv 0, iv 0, iv 0, iv 0] 24)).heap[w.heap.size]? = some (.cells (s.cs A n c0) 24 (0, 0)) from heap_alloc2_old w _ _)
  have D0 := Lib.hid (hA.later B0)
  have VC := Lib.hid (show ∀ (W : World), DataAt W A n b o xs → Calls Try.prog 15 #[.agg (s.cs A n c0)] W fun e w' => e = .returned (.bool true) ∧ Below W.heap.size W w' from fun W h => by have := valid_any s A n c0 b o xs hn hc0 W h; rwa [hv] at this)
  obtain ⟨_, _, n4, _, _, _, l7, l10⟩ := vS_yes hv
  unfold LpOk at l7 l10
  have HN := Lib.hid n4
  have HX := Lib.hid (vS_frames hv)
  have OC := Lib.hid fun (W : World) (h : DataAt W A n b o xs) => own_any s A n c0 b o xs (by omega) W h
  have HA2 := Lib.hid ha2
  clear hA hv l7 l10 ha2
  go_enter Try.func34, Try.ntmps34
  go_upto_region 5 with (first
    | (refine wpList_load_row rfl 24 (.tmp 2) rfl (w.heap.size) rfl 24 _ (0, 0) _ P0.out Try.underlying24 rfl (S.i24 _ _ _ _) ?_)
    | (go_at_call 15; (with_reducible refine (VC.out _ D0.out).mono ?_); rintro e w1 ⟨rfl, hb1⟩; have P1 := Lib.hid (bkBelow P0.out hb1); have H1 := Lib.hid (bkBelow H0.out hb1); have D1 := Lib.hid (D0.out.later hb1); have B1 := bdT B0 B0.size hb1))
  have HP := Lib.hid (bkLt P1.out)
  have HH := Lib.hid (bkLt H1.out)
  go_upto_region 6 with (first
    | (refine wpList_load_row rfl 24 (.tmp 2) rfl (w.heap.size) rfl 24 _ (0, 0) _ P1.out Try.underlying24 rfl (S.i24 _ _ _ _) ?_)
    | (go_at_call 74; (with_reducible refine (OC.out _ D1.out).mono ?_); rintro e w2 ⟨A', c', rfl, hO2, hb2⟩; have P2 := Lib.hid (bkBelow P1.out hb2); have H2 := Lib.hid (bkBelow H1.out hb2); have B2 := bdT B1 B1.size hb2; have O2 := Lib.hid hO2; clear hO2 hb2)
    | (refine wpList_store_row rfl 24 (.tmp 2) (.tmp 20) rfl (w.heap.size) (s.cs A' n c') rfl rfl 24 _ P2.out (S.i24 _ _ _ _) (S.sz s s A A' n c0 n c') (S.one _ _ _ _) ?_))
  have P3 := Lib.hid (setRow_heap _ _ _ (s.cs A' n c') _ _ P2.out)
  have H3 := Lib.hid ((setRow_other w2 w.heap.size (w.heap.size + 1) (s.cs A' n c') (by omega)).trans H2.out)
  have O3 := Lib.hid (ownVR O2.out HP.out (s.cs A' n c'))
  have B3 := below_setRow B2 (Nat.le_refl _) (s.cs A' n c')
  clear P2 H2 O2 B2 P0 H0 D0 B0 H1 D1 B1
  generalize w2.setRow w.heap.size (s.cs A' n c') = w3 at *
  have p1 := (bkCell P3.out 1).trans (show _ = some (Value.slice A' n c') from rfl)
  go_upto_region 7 with (fail)
  clear p1
  go_loopw [24] (fun v wr => ∃ j : Nat, j ≤ n ∧ v = iv j ∧ wr.heap[w.heap.size]? = some (.cells (s.cs A' n c') 24 (0, 0)) ∧ wr.heap[w.heap.size + 1]? = some (.cells (S.zero.cs none 0 0) 24 (0, 0)) ∧ wr.ownsRow w1.heap.size 3 1 (.slice A' n c') n (rw_ (upF (cvX 8 16) xs j) n) ∧ Below w.heap.size w wr) (fun v _ => n - (intOf v).toNat)
  case atStart => exact ⟨0, by omega, rfl, P3.out, H3.out, ownN O3.out (by rw [upF_zero]), B3⟩
  case round =>
    clear P3 H3 B3
    obtain ⟨j, hj, rfl, hP, hH, hO, hB⟩ := hrel
    have NP := Lib.hid hP
    have NH := Lib.hid hH
    have NO := Lib.hid hO
    have l3 : (0 : Int) ≤ (j : Int) := by omega
    clear hP hH hO
    by_cases hlt : j < n
    · have l4 : (j : Int) < (n : Int) := by omega
      obtain ⟨A2, c2, g, e, hd, hform⟩ := ownDataV NO.out
      obtain ⟨rfl, rfl⟩ : A' = A2 ∧ c' = c2 := by simp only [Value.slice.injEq] at e; exact ⟨e.1, e.2.2⟩
      obtain ⟨rfl, hg⟩ : A' = some ⟨g, 0, none⟩ ∧ w1.heap.size ≤ g := by
        rcases hform with h | h
        · omega
        · exact h
      have HG := Lib.hid hg
      have s4 : wr.cell? ⟨g, j, none⟩ = some (iv (xs j)) := ((NO.out.cellAt j (by omega)).trans (rw_at _ n j hlt)).trans (by rw [upF_at])
      have p1 := (bkCell NP.out 1).trans (show _ = some (Value.slice (some ⟨g, 0, none⟩) n c') from rfl)
      have p2 := (bkCell NP.out 2).trans (show _ = some (iv s.a2) from rfl)
      rw [HA2.out] at p2
      clear hd hform hg e
      generalize hx : xs j = x at s4
      have HXJ := Lib.hid hx
      have bx := HX.out j hlt
      rw [hx] at bx
      clear hx
      have f4 := NO.out.frozenAt j
      have e1 : wrap64 (x * 256) = x * 256 := wrap_in (by omega) (by omega)
      clear bx
      go_upto_region 13 with (fail)
      have P6 := Lib.hid (bkFar NP.out (p := ⟨g, j, none⟩) (by have := HG.out; have := HP.out; simp; omega) (iv (x * 256)))
      have H6 := Lib.hid (bkFar NH.out (p := ⟨g, j, none⟩) (by have := HG.out; have := HH.out; simp; omega) (iv (x * 256)))
      have O6 := Lib.hid (ownN (NO.out.stored j (iv (x * 256))).1 ((rw_set _ n j _).trans ((show rw_ _ n = rw_ (fun i => if i = j then cvX 8 16 (xs j) else upF (cvX 8 16) xs j i) n by rw [HXJ.out]; rfl).trans (upF_step (cvX 8 16) xs n j))))
      have B6 := hB.setCell (p := ⟨g, j, none⟩) (by have := HG.out; have := HP.out; simp; omega) (iv (x * 256))
      clear s4 f4 p1 p2
      go_wp2
      exact ⟨⟨j + 1, by omega, by go_num, P6.out, H6.out, O6.out, B6⟩, by simp [intOf]; omega⟩
    · obtain rfl : j = n := by omega
      go_upto_region 14 with (fail)
      have f2 := bkFrozen NP.out 2
      have p2 := (bkCell NP.out 2).trans (show _ = some (iv s.a2) from rfl)
      go_upto_region 15 with (fail)
      have P5 := Lib.hid (bkPut NP.out 2 (iv 16) (show _ = (cvS s 16).cs A' j c' from rfl))
      have H5 := Lib.hid (bkFar NH.out (p := ⟨w.heap.size, 2, none⟩) (by simp) (iv 16))
      have O5 := Lib.hid (ownVC NO.out (p := ⟨w.heap.size, 2, none⟩) HP.out (iv 16))
      have B5 := hB.setCell (p := ⟨w.heap.size, 2, none⟩) (Nat.le_refl _) (iv 16)
      go_wp2_with (first
        | (refine wpList_load_row rfl 24 (.tmp 2) rfl (w.heap.size) rfl 24 _ (0, 0) _ P5.out Try.underlying24 rfl (S.i24 _ _ _ _) ?_)
        | (refine wpList_store_row rfl 24 (.tmp 4) (.tmp 54) rfl (w.heap.size + 1) ((cvS s 16).cs A' j c') rfl rfl 24 _ H5.out (S.i24 _ _ _ _) (S.sz S.zero _ none _ 0 0 _ _) (S.one _ _ _ _) ?_))
      refine bodyPost_ret (res_ct rfl _ _ (w.heap.size + 1) 24 _ (0, 0) _ rfl (setRow_heap _ _ _ _ _ _ H5.out) Try.underlying24 rfl (S.i24 _ _ _ _)) rfl ⟨A', c', rfl, ownN (ownBase2 (ownVR O5.out HH.out _) (Nat.le_of_lt HP.out)) (by rw [upF_end]; show _ = rw_ (cvF s.a2 16 xs) _; rw [HA2.out]; rfl), below_setRow B5 (by omega) _⟩
set_option maxHeartbeats 16000000 in
set_option maxRecDepth 100000 in
theorem sconv_dn (s : S) (A : Option Addr) (n c0 b o : Nat) (xs : Nat → Int)  (hv : vS s n xs = true) (ha2 : s.a2 = 16) (hn : n ≤ 9223372036854775807) (hc0 : n ≤ c0) (w : World) (hA : DataAt w A n b o xs) : Gives 34 #[.agg (s.cs A n c0), iv 8] w (cvS s 8) n (cvF s.a2 8 xs) 0 := by
  unfold Gives
  have H0 := Lib.hid (show ((w.alloc (Obj.cells (s.cs A n c0) 24)).alloc (Obj.cells #[Value.string ⟨#[]⟩, Value.slice none 0 0, iv 0, iv 0, iv 0, iv 0, iv 0, iv 0, iv 0, iv 0, iv 0, iv 0, iv 0] 24)).heap[w.heap.size + 1]? = some (.cells (S.zero.cs none 0 0) 24 (0, 0)) from heap_alloc2_new w (Obj.cells (s.cs A n c0) 24) (Obj.cells #[Value.string ⟨#[]⟩, Value.slice none 0 0, iv 0, iv 0, iv 0, iv 0, iv 0, iv 0, iv 0, iv 0, iv 0, iv 0, iv 0] 24))
  have B0 : Below w.heap.size w ((w.alloc (Obj.cells (s.cs A n c0) 24)).alloc (Obj.cells #[Value.string ⟨#[]⟩, Value.slice none 0 0, iv 0, iv 0, iv 0, iv 0, iv 0, iv 0, iv 0, iv 0, iv 0, iv 0, iv 0] 24)) := ((Below.refl _ _).alloc (Nat.le_refl _) _).alloc (by simp) _
  have P0 := Lib.hid (show ((w.alloc (Obj.cells (s.cs A n c0) 24)).alloc (Obj.cells #[Value.string ⟨#[]⟩, Value.slice none 0 0, iv 0, iv 0, iv 0, iv 0, iv 0, iv 0, iv 0, iv 0, iv 0, iv 0, iv 0] 24)).heap[w.heap.size]? = some (.cells (s.cs A n c0) 24 (0, 0)) from heap_alloc2_old w _ _)
  have D0 := Lib.hid (hA.later B0)
  have VC := Lib.hid (show ∀ (W : World), DataAt W A n b o xs → Calls Try.prog 15 #[.agg (s.cs A n c0)] W fun e w' => e = .returned (.bool true) ∧ Below W.heap.size W w' from fun W h => by have := valid_any s A n c0 b o xs hn hc0 W h; rwa [hv] at this)
  obtain ⟨_, _, n4, _, _, _, l7, l10⟩ := vS_yes hv
  unfold LpOk at l7 l10
  have HN := Lib.hid n4
  have HX := Lib.hid (vS_frames hv)
  have OC := Lib.hid fun (W : World) (h : DataAt W A n b o xs) => own_any s A n c0 b o xs (by omega) W h
  have HA2 := Lib.hid ha2
  clear hA hv l7 l10 ha2
  go_enter Try.func34, Try.ntmps34
  go_upto_region 5 with (first
    | (refine wpList_load_row rfl 24 (.tmp 2) rfl (w.heap.size) rfl 24 _ (0, 0) _ P0.out Try.underlying24 rfl (S.i24 _ _ _ _) ?_)
    | (go_at_call 15; (with_reducible refine (VC.out _ D0.out).mono ?_); rintro e w1 ⟨rfl, hb1⟩; have P1 := Lib.hid (bkBelow P0.out hb1); have H1 := Lib.hid (bkBelow H0.out hb1); have D1 := Lib.hid (D0.out.later hb1); have B1 := bdT B0 B0.size hb1))
  have HP := Lib.hid (bkLt P1.out)
  have HH := Lib.hid (bkLt H1.out)
  go_upto_region 6 with (first
    | (refine wpList_load_row rfl 24 (.tmp 2) rfl (w.heap.size) rfl 24 _ (0, 0) _ P1.out Try.underlying24 rfl (S.i24 _ _ _ _) ?_)
    | (go_at_call 74; (with_reducible refine (OC.out _ D1.out).mono ?_); rintro e w2 ⟨A', c', rfl, hO2, hb2⟩; have P2 := Lib.hid (bkBelow P1.out hb2); have H2 := Lib.hid (bkBelow H1.out hb2); have B2 := bdT B1 B1.size hb2; have O2 := Lib.hid hO2; clear hO2 hb2)
    | (refine wpList_store_row rfl 24 (.tmp 2) (.tmp 20) rfl (w.heap.size) (s.cs A' n c') rfl rfl 24 _ P2.out (S.i24 _ _ _ _) (S.sz s s A A' n c0 n c') (S.one _ _ _ _) ?_))
  have P3 := Lib.hid (setRow_heap _ _ _ (s.cs A' n c') _ _ P2.out)
  have H3 := Lib.hid ((setRow_other w2 w.heap.size (w.heap.size + 1) (s.cs A' n c') (by omega)).trans H2.out)
  have O3 := Lib.hid (ownVR O2.out HP.out (s.cs A' n c'))
  have B3 := below_setRow B2 (Nat.le_refl _) (s.cs A' n c')
  clear P2 H2 O2 B2 P0 H0 D0 B0 H1 D1 B1
  generalize w2.setRow w.heap.size (s.cs A' n c') = w3 at *
  have p1 := (bkCell P3.out 1).trans (show _ = some (Value.slice A' n c') from rfl)
  go_upto_region 7 with (fail)
  clear p1
  go_loopw [24] (fun v wr => ∃ j : Nat, j ≤ n ∧ v = iv j ∧ wr.heap[w.heap.size]? = some (.cells (s.cs A' n c') 24 (0, 0)) ∧ wr.heap[w.heap.size + 1]? = some (.cells (S.zero.cs none 0 0) 24 (0, 0)) ∧ wr.ownsRow w1.heap.size 3 1 (.slice A' n c') n (rw_ (upF (cvX 16 8) xs j) n) ∧ Below w.heap.size w wr) (fun v _ => n - (intOf v).toNat)
  case atStart => exact ⟨0, by omega, rfl, P3.out, H3.out, ownN O3.out (by rw [upF_zero]), B3⟩
  case round =>
    clear P3 H3 B3
    obtain ⟨j, hj, rfl, hP, hH, hO, hB⟩ := hrel
    have NP := Lib.hid hP
    have NH := Lib.hid hH
    have NO := Lib.hid hO
    have l3 : (0 : Int) ≤ (j : Int) := by omega
    clear hP hH hO
    by_cases hlt : j < n
    · have l4 : (j : Int) < (n : Int) := by omega
      obtain ⟨A2, c2, g, e, hd, hform⟩ := ownDataV NO.out
      obtain ⟨rfl, rfl⟩ : A' = A2 ∧ c' = c2 := by simp only [Value.slice.injEq] at e; exact ⟨e.1, e.2.2⟩
      obtain ⟨rfl, hg⟩ : A' = some ⟨g, 0, none⟩ ∧ w1.heap.size ≤ g := by
        rcases hform with h | h
        · omega
        · exact h
      have HG := Lib.hid hg
      have s4 : wr.cell? ⟨g, j, none⟩ = some (iv (xs j)) := ((NO.out.cellAt j (by omega)).trans (rw_at _ n j hlt)).trans (by rw [upF_at])
      have p1 := (bkCell NP.out 1).trans (show _ = some (Value.slice (some ⟨g, 0, none⟩) n c') from rfl)
      have p2 := (bkCell NP.out 2).trans (show _ = some (iv s.a2) from rfl)
      rw [HA2.out] at p2
      clear hd hform hg e
      generalize hx : xs j = x at s4
      have HXJ := Lib.hid hx
      have bx := HX.out j hlt
      rw [hx] at bx
      clear hx
      have f4 := NO.out.frozenAt j
      go_upto_region 13 with (fail)
      have P6 := Lib.hid (bkFar NP.out (p := ⟨g, j, none⟩) (by have := HG.out; have := HP.out; simp; omega) (iv (x / 256)))
      have H6 := Lib.hid (bkFar NH.out (p := ⟨g, j, none⟩) (by have := HG.out; have := HH.out; simp; omega) (iv (x / 256)))
      have O6 := Lib.hid (ownN (NO.out.stored j (iv (x / 256))).1 ((rw_set _ n j _).trans ((show rw_ _ n = rw_ (fun i => if i = j then cvX 16 8 (xs j) else upF (cvX 16 8) xs j i) n by rw [HXJ.out]; rfl).trans (upF_step (cvX 16 8) xs n j))))
      have B6 := hB.setCell (p := ⟨g, j, none⟩) (by have := HG.out; have := HP.out; simp; omega) (iv (x / 256))
      clear s4 f4 p1 p2
      go_wp2
      exact ⟨⟨j + 1, by omega, by go_num, P6.out, H6.out, O6.out, B6⟩, by simp [intOf]; omega⟩
    · obtain rfl : j = n := by omega
      go_upto_region 14 with (fail)
      have f2 := bkFrozen NP.out 2
      have p2 := (bkCell NP.out 2).trans (show _ = some (iv s.a2) from rfl)
      go_upto_region 15 with (fail)
      have P5 := Lib.hid (bkPut NP.out 2 (iv 8) (show _ = (cvS s 8).cs A' j c' from rfl))
      have H5 := Lib.hid (bkFar NH.out (p := ⟨w.heap.size, 2, none⟩) (by simp) (iv 8))
      have O5 := Lib.hid (ownVC NO.out (p := ⟨w.heap.size, 2, none⟩) HP.out (iv 8))
      have B5 := hB.setCell (p := ⟨w.heap.size, 2, none⟩) (Nat.le_refl _) (iv 8)
      go_wp2_with (first
        | (refine wpList_load_row rfl 24 (.tmp 2) rfl (w.heap.size) rfl 24 _ (0, 0) _ P5.out Try.underlying24 rfl (S.i24 _ _ _ _) ?_)
        | (refine wpList_store_row rfl 24 (.tmp 4) (.tmp 54) rfl (w.heap.size + 1) ((cvS s 8).cs A' j c') rfl rfl 24 _ H5.out (S.i24 _ _ _ _) (S.sz S.zero _ none _ 0 0 _ _) (S.one _ _ _ _) ?_))
      refine bodyPost_ret (res_ct rfl _ _ (w.heap.size + 1) 24 _ (0, 0) _ rfl (setRow_heap _ _ _ _ _ _ H5.out) Try.underlying24 rfl (S.i24 _ _ _ _)) rfl ⟨A', c', rfl, ownN (ownBase2 (ownVR O5.out HH.out _) (Nat.le_of_lt HP.out)) (by rw [upF_end]; show _ = rw_ (cvF s.a2 8 xs) _; rw [HA2.out]; rfl), below_setRow B5 (by omega) _⟩
set_option maxHeartbeats 16000000 in
set_option maxRecDepth 100000 in
theorem sconv_e8 (s : S) (A : Option Addr) (n c0 b o : Nat) (xs : Nat → Int)  (hv : vS s n xs = true) (ha2 : s.a2 = 8) (hn : n ≤ 9223372036854775807) (hc0 : n ≤ c0) (w : World) (hA : DataAt w A n b o xs) : Gives 34 #[.agg (s.cs A n c0), iv 8] w (cvS s 8) n (cvF s.a2 8 xs) 0 := by
  unfold Gives
  have H0 := Lib.hid (show ((w.alloc (Obj.cells (s.cs A n c0) 24)).alloc (Obj.cells #[Value.string ⟨#[]⟩, Value.slice none 0 0, iv 0, iv 0, iv 0, iv 0, iv 0, iv 0, iv 0, iv 0, iv 0, iv 0, iv 0] 24)).heap[w.heap.size + 1]? = some (.cells (S.zero.cs none 0 0) 24 (0, 0)) from heap_alloc2_new w (Obj.cells (s.cs A n c0) 24) (Obj.cells #[Value.string ⟨#[]⟩, Value.slice none 0 0, iv 0, iv 0, iv 0, iv 0, iv 0, iv 0, iv 0, iv 0, iv 0, iv 0, iv 0] 24))
  have B0 : Below w.heap.size w ((w.alloc (Obj.cells (s.cs A n c0) 24)).alloc (Obj.cells #[Value.string ⟨#[]⟩, Value.slice none 0 0, iv 0, iv 0, iv 0, iv 0, iv 0, iv 0, iv 0, iv 0, iv 0, iv 0, iv 0] 24)) := ((Below.refl _ _).alloc (Nat.le_refl _) _).alloc (by simp) _
  have P0 := Lib.hid (show ((w.alloc (Obj.cells (s.cs A n c0) 24)).alloc (Obj.cells #[Value.string ⟨#[]⟩, Value.slice none 0 0, iv 0, iv 0, iv 0, iv 0, iv 0, iv 0, iv 0, iv 0, iv 0, iv 0, iv 0] 24)).heap[w.heap.size]? = some (.cells (s.cs A n c0) 24 (0, 0)) from heap_alloc2_old w _ _)
  have D0 := Lib.hid (hA.later B0)
  have VC := Lib.hid (show ∀ (W : World), DataAt W A n b o xs → Calls Try.prog 15 #[.agg (s.cs A n c0)] W fun e w' => e = .returned (.bool true) ∧ Below W.heap.size W w' from fun W h => by have := valid_any s A n c0 b o xs hn hc0 W h; rwa [hv] at this)
  obtain ⟨_, _, n4, _, _, _, l7, l10⟩ := vS_yes hv
  unfold LpOk at l7 l10
  have HN := Lib.hid n4
  have HX := Lib.hid (vS_frames hv)
  have OC := Lib.hid fun (W : World) (h : DataAt W A n b o xs) => own_any s A n c0 b o xs (by omega) W h
  have HA2 := Lib.hid ha2
  clear hA hv l7 l10 ha2
  go_enter Try.func34, Try.ntmps34
  go_upto_region 5 with (first
    | (refine wpList_load_row rfl 24 (.tmp 2) rfl (w.heap.size) rfl 24 _ (0, 0) _ P0.out Try.underlying24 rfl (S.i24 _ _ _ _) ?_)
    | (go_at_call 15; (with_reducible refine (VC.out _ D0.out).mono ?_); rintro e w1 ⟨rfl, hb1⟩; have P1 := Lib.hid (bkBelow P0.out hb1); have H1 := Lib.hid (bkBelow H0.out hb1); have D1 := Lib.hid (D0.out.later hb1); have B1 := bdT B0 B0.size hb1))
  have HP := Lib.hid (bkLt P1.out)
  have HH := Lib.hid (bkLt H1.out)
  go_upto_region 6 with (first
    | (refine wpList_load_row rfl 24 (.tmp 2) rfl (w.heap.size) rfl 24 _ (0, 0) _ P1.out Try.underlying24 rfl (S.i24 _ _ _ _) ?_)
    | (go_at_call 74; (with_reducible refine (OC.out _ D1.out).mono ?_); rintro e w2 ⟨A', c', rfl, hO2, hb2⟩; have P2 := Lib.hid (bkBelow P1.out hb2); have H2 := Lib.hid (bkBelow H1.out hb2); have B2 := bdT B1 B1.size hb2; have O2 := Lib.hid hO2; clear hO2 hb2)
    | (refine wpList_store_row rfl 24 (.tmp 2) (.tmp 20) rfl (w.heap.size) (s.cs A' n c') rfl rfl 24 _ P2.out (S.i24 _ _ _ _) (S.sz s s A A' n c0 n c') (S.one _ _ _ _) ?_))
  have P3 := Lib.hid (setRow_heap _ _ _ (s.cs A' n c') _ _ P2.out)
  have H3 := Lib.hid ((setRow_other w2 w.heap.size (w.heap.size + 1) (s.cs A' n c') (by omega)).trans H2.out)
  have O3 := Lib.hid (ownVR O2.out HP.out (s.cs A' n c'))
  have B3 := below_setRow B2 (Nat.le_refl _) (s.cs A' n c')
  clear P2 H2 O2 B2 P0 H0 D0 B0 H1 D1 B1
  generalize w2.setRow w.heap.size (s.cs A' n c') = w3 at *
  have p1 := (bkCell P3.out 1).trans (show _ = some (Value.slice A' n c') from rfl)
  go_upto_region 7 with (fail)
  clear p1
  go_loopw [24] (fun v wr => ∃ j : Nat, j ≤ n ∧ v = iv j ∧ wr.heap[w.heap.size]? = some (.cells (s.cs A' n c') 24 (0, 0)) ∧ wr.heap[w.heap.size + 1]? = some (.cells (S.zero.cs none 0 0) 24 (0, 0)) ∧ wr.ownsRow w1.heap.size 3 1 (.slice A' n c') n (rw_ (upF (cvX 8 8) xs j) n) ∧ Below w.heap.size w wr) (fun v _ => n - (intOf v).toNat)
  case atStart => exact ⟨0, by omega, rfl, P3.out, H3.out, ownN O3.out (by rw [upF_zero]), B3⟩
  case round =>
    clear P3 H3 B3
    obtain ⟨j, hj, rfl, hP, hH, hO, hB⟩ := hrel
    have NP := Lib.hid hP
    have NH := Lib.hid hH
    have NO := Lib.hid hO
    have l3 : (0 : Int) ≤ (j : Int) := by omega
    clear hP hH hO
    by_cases hlt : j < n
    · have l4 : (j : Int) < (n : Int) := by omega
      obtain ⟨A2, c2, g, e, hd, hform⟩ := ownDataV NO.out
      obtain ⟨rfl, rfl⟩ : A' = A2 ∧ c' = c2 := by simp only [Value.slice.injEq] at e; exact ⟨e.1, e.2.2⟩
      obtain ⟨rfl, hg⟩ : A' = some ⟨g, 0, none⟩ ∧ w1.heap.size ≤ g := by
        rcases hform with h | h
        · omega
        · exact h
      have HG := Lib.hid hg
      have s4 : wr.cell? ⟨g, j, none⟩ = some (iv (xs j)) := ((NO.out.cellAt j (by omega)).trans (rw_at _ n j hlt)).trans (by rw [upF_at])
      have p1 := (bkCell NP.out 1).trans (show _ = some (Value.slice (some ⟨g, 0, none⟩) n c') from rfl)
      have p2 := (bkCell NP.out 2).trans (show _ = some (iv s.a2) from rfl)
      rw [HA2.out] at p2
      clear hd hform hg e
      generalize hx : xs j = x at s4
      have HXJ := Lib.hid hx
      have bx := HX.out j hlt
      rw [hx] at bx
      clear hx
      clear bx
      go_wp2
      exact ⟨⟨j + 1, by omega, by go_num, NP.out, NH.out, ownN NO.out (upF_same (show cvX 8 8 (xs j) = xs j from by rw [HXJ.out]; rfl) n), hB⟩, by simp [intOf]; omega⟩
    · obtain rfl : j = n := by omega
      go_upto_region 14 with (fail)
      have f2 := bkFrozen NP.out 2
      have p2 := (bkCell NP.out 2).trans (show _ = some (iv s.a2) from rfl)
      go_upto_region 15 with (fail)
      have P5 := Lib.hid (bkPut NP.out 2 (iv 8) (show _ = (cvS s 8).cs A' j c' from rfl))
      have H5 := Lib.hid (bkFar NH.out (p := ⟨w.heap.size, 2, none⟩) (by simp) (iv 8))
      have O5 := Lib.hid (ownVC NO.out (p := ⟨w.heap.size, 2, none⟩) HP.out (iv 8))
      have B5 := hB.setCell (p := ⟨w.heap.size, 2, none⟩) (Nat.le_refl _) (iv 8)
      go_wp2_with (first
        | (refine wpList_load_row rfl 24 (.tmp 2) rfl (w.heap.size) rfl 24 _ (0, 0) _ P5.out Try.underlying24 rfl (S.i24 _ _ _ _) ?_)
        | (refine wpList_store_row rfl 24 (.tmp 4) (.tmp 54) rfl (w.heap.size + 1) ((cvS s 8).cs A' j c') rfl rfl 24 _ H5.out (S.i24 _ _ _ _) (S.sz S.zero _ none _ 0 0 _ _) (S.one _ _ _ _) ?_))
      refine bodyPost_ret (res_ct rfl _ _ (w.heap.size + 1) 24 _ (0, 0) _ rfl (setRow_heap _ _ _ _ _ _ H5.out) Try.underlying24 rfl (S.i24 _ _ _ _)) rfl ⟨A', c', rfl, ownN (ownBase2 (ownVR O5.out HH.out _) (Nat.le_of_lt HP.out)) (by rw [upF_end]; show _ = rw_ (cvF s.a2 8 xs) _; rw [HA2.out]; rfl), below_setRow B5 (by omega) _⟩
set_option maxHeartbeats 16000000 in
set_option maxRecDepth 100000 in
theorem sconv_e16 (s : S) (A : Option Addr) (n c0 b o : Nat) (xs : Nat → Int)  (hv : vS s n xs = true) (ha2 : s.a2 = 16) (hn : n ≤ 9223372036854775807) (hc0 : n ≤ c0) (w : World) (hA : DataAt w A n b o xs) : Gives 34 #[.agg (s.cs A n c0), iv 16] w (cvS s 16) n (cvF s.a2 16 xs) 0 := by
  unfold Gives
  have H0 := Lib.hid (show ((w.alloc (Obj.cells (s.cs A n c0) 24)).alloc (Obj.cells #[Value.string ⟨#[]⟩, Value.slice none 0 0, iv 0, iv 0, iv 0, iv 0, iv 0, iv 0, iv 0, iv 0, iv 0, iv 0, iv 0] 24)).heap[w.heap.size + 1]? = some (.cells (S.zero.cs none 0 0) 24 (0, 0)) from heap_alloc2_new w (Obj.cells (s.cs A n c0) 24) (Obj.cells #[Value.string ⟨#[]⟩, Value.slice none 0 0, iv 0, iv 0, iv 0, iv 0, iv 0, iv 0, iv 0, iv 0, iv 0, iv 0, iv 0] 24))
  have B0 : Below w.heap.size w ((w.alloc (Obj.cells (s.cs A n c0) 24)).alloc (Obj.cells #[Value.string ⟨#[]⟩, Value.slice none 0 0, iv 0, iv 0, iv 0, iv 0, iv 0, iv 0, iv 0, iv 0, iv 0, iv 0, iv 0] 24)) := ((Below.refl _ _).alloc (Nat.le_refl _) _).alloc (by simp) _
  have P0 := Lib.hid (show ((w.alloc (Obj.cells (s.cs A n c0) 24)).alloc (Obj.cells #[Value.string ⟨#[]⟩, Value.slice none 0 0, iv 0, iv 0, iv 0, iv 0, iv 0, iv 0, iv 0, iv 0, iv 0, iv 0, iv 0] 24)).heap[w.heap.size]? = some (.cells (s.cs A n c0) 24 (0, 0)) from heap_alloc2_old w _ _)
  have D0 := Lib.hid (hA.later B0)
  have VC := Lib.hid (show ∀ (W : World), DataAt W A n b o xs → Calls Try.prog 15 #[.agg (s.cs A n c0)] W fun e w' => e = .returned (.bool true) ∧ Below W.heap.size W w' from fun W h => by have := valid_any s A n c0 b o xs hn hc0 W h; rwa [hv] at this)
  obtain ⟨_, _, n4, _, _, _, l7, l10⟩ := vS_yes hv
  unfold LpOk at l7 l10
  have HN := Lib.hid n4
  have HX := Lib.hid (vS_frames hv)
  have OC := Lib.hid fun (W : World) (h : DataAt W A n b o xs) => own_any s A n c0 b o xs (by omega) W h
  have HA2 := Lib.hid ha2
  clear hA hv l7 l10 ha2
  go_enter Try.func34, Try.ntmps34
  go_upto_region 5 with (first
    | (refine wpList_load_row rfl 24 (.tmp 2) rfl (w.heap.size) rfl 24 _ (0, 0) _ P0.out Try.underlying24 rfl (S.i24 _ _ _ _) ?_)
    | (go_at_call 15; (with_reducible refine (VC.out _ D0.out).mono ?_); rintro e w1 ⟨rfl, hb1⟩; have P1 := Lib.hid (bkBelow P0.out hb1); have H1 := Lib.hid (bkBelow H0.out hb1); have D1 := Lib.hid (D0.out.later hb1); have B1 := bdT B0 B0.size hb1))
  have HP := Lib.hid (bkLt P1.out)
  have HH := Lib.hid (bkLt H1.out)
  go_upto_region 6 with (first
    | (refine wpList_load_row rfl 24 (.tmp 2) rfl (w.heap.size) rfl 24 _ (0, 0) _ P1.out Try.underlying24 rfl (S.i24 _ _ _ _) ?_)
    | (go_at_call 74; (with_reducible refine (OC.out _ D1.out).mono ?_); rintro e w2 ⟨A', c', rfl, hO2, hb2⟩; have P2 := Lib.hid (bkBelow P1.out hb2); have H2 := Lib.hid (bkBelow H1.out hb2); have B2 := bdT B1 B1.size hb2; have O2 := Lib.hid hO2; clear hO2 hb2)
    | (refine wpList_store_row rfl 24 (.tmp 2) (.tmp 20) rfl (w.heap.size) (s.cs A' n c') rfl rfl 24 _ P2.out (S.i24 _ _ _ _) (S.sz s s A A' n c0 n c') (S.one _ _ _ _) ?_))
  have P3 := Lib.hid (setRow_heap _ _ _ (s.cs A' n c') _ _ P2.out)
  have H3 := Lib.hid ((setRow_other w2 w.heap.size (w.heap.size + 1) (s.cs A' n c') (by omega)).trans H2.out)
  have O3 := Lib.hid (ownVR O2.out HP.out (s.cs A' n c'))
  have B3 := below_setRow B2 (Nat.le_refl _) (s.cs A' n c')
  clear P2 H2 O2 B2 P0 H0 D0 B0 H1 D1 B1
  generalize w2.setRow w.heap.size (s.cs A' n c') = w3 at *
  have p1 := (bkCell P3.out 1).trans (show _ = some (Value.slice A' n c') from rfl)
  go_upto_region 7 with (fail)
  clear p1
  go_loopw [24] (fun v wr => ∃ j : Nat, j ≤ n ∧ v = iv j ∧ wr.heap[w.heap.size]? = some (.cells (s.cs A' n c') 24 (0, 0)) ∧ wr.heap[w.heap.size + 1]? = some (.cells (S.zero.cs none 0 0) 24 (0, 0)) ∧ wr.ownsRow w1.heap.size 3 1 (.slice A' n c') n (rw_ (upF (cvX 16 16) xs j) n) ∧ Below w.heap.size w wr) (fun v _ => n - (intOf v).toNat)
  case atStart => exact ⟨0, by omega, rfl, P3.out, H3.out, ownN O3.out (by rw [upF_zero]), B3⟩
  case round =>
    clear P3 H3 B3
    obtain ⟨j, hj, rfl, hP, hH, hO, hB⟩ := hrel
    have NP := Lib.hid hP
    have NH := Lib.hid hH
    have NO := Lib.hid hO
    have l3 : (0 : Int) ≤ (j : Int) := by omega
    clear hP hH hO
    by_cases hlt : j < n
    · have l4 : (j : Int) < (n : Int) := by omega
      obtain ⟨A2, c2, g, e, hd, hform⟩ := ownDataV NO.out
      obtain ⟨rfl, rfl⟩ : A' = A2 ∧ c' = c2 := by simp only [Value.slice.injEq] at e; exact ⟨e.1, e.2.2⟩
      obtain ⟨rfl, hg⟩ : A' = some ⟨g, 0, none⟩ ∧ w1.heap.size ≤ g := by
        rcases hform with h | h
        · omega
        · exact h
      have HG := Lib.hid hg
      have s4 : wr.cell? ⟨g, j, none⟩ = some (iv (xs j)) := ((NO.out.cellAt j (by omega)).trans (rw_at _ n j hlt)).trans (by rw [upF_at])
      have p1 := (bkCell NP.out 1).trans (show _ = some (Value.slice (some ⟨g, 0, none⟩) n c') from rfl)
      have p2 := (bkCell NP.out 2).trans (show _ = some (iv s.a2) from rfl)
      rw [HA2.out] at p2
      clear hd hform hg e
      generalize hx : xs j = x at s4
      have HXJ := Lib.hid hx
      have bx := HX.out j hlt
      rw [hx] at bx
      clear hx
      clear bx
      go_wp2
      exact ⟨⟨j + 1, by omega, by go_num, NP.out, NH.out, ownN NO.out (upF_same (show cvX 16 16 (xs j) = xs j from by rw [HXJ.out]; rfl) n), hB⟩, by simp [intOf]; omega⟩
    · obtain rfl : j = n := by omega
      go_upto_region 14 with (fail)
      have f2 := bkFrozen NP.out 2
      have p2 := (bkCell NP.out 2).trans (show _ = some (iv s.a2) from rfl)
      go_upto_region 15 with (fail)
      have P5 := Lib.hid (bkPut NP.out 2 (iv 16) (show _ = (cvS s 16).cs A' j c' from rfl))
      have H5 := Lib.hid (bkFar NH.out (p := ⟨w.heap.size, 2, none⟩) (by simp) (iv 16))
      have O5 := Lib.hid (ownVC NO.out (p := ⟨w.heap.size, 2, none⟩) HP.out (iv 16))
      have B5 := hB.setCell (p := ⟨w.heap.size, 2, none⟩) (Nat.le_refl _) (iv 16)
      go_wp2_with (first
        | (refine wpList_load_row rfl 24 (.tmp 2) rfl (w.heap.size) rfl 24 _ (0, 0) _ P5.out Try.underlying24 rfl (S.i24 _ _ _ _) ?_)
        | (refine wpList_store_row rfl 24 (.tmp 4) (.tmp 54) rfl (w.heap.size + 1) ((cvS s 16).cs A' j c') rfl rfl 24 _ H5.out (S.i24 _ _ _ _) (S.sz S.zero _ none _ 0 0 _ _) (S.one _ _ _ _) ?_))
      refine bodyPost_ret (res_ct rfl _ _ (w.heap.size + 1) 24 _ (0, 0) _ rfl (setRow_heap _ _ _ _ _ _ H5.out) Try.underlying24 rfl (S.i24 _ _ _ _)) rfl ⟨A', c', rfl, ownN (ownBase2 (ownVR O5.out HH.out _) (Nat.le_of_lt HP.out)) (by rw [upF_end]; show _ = rw_ (cvF s.a2 16 xs) _; rw [HA2.out]; rfl), below_setRow B5 (by omega) _⟩
theorem sconv_ok (s : S) (A : Option Addr) (n c0 b o : Nat) (xs : Nat → Int) (bits : Int) (hb2 : bits = 8 ∨ bits = 16) (hv : vS s n xs = true) (hn : n ≤ 9223372036854775807) (hc0 : n ≤ c0) (w : World) (hA : DataAt w A n b o xs) : Gives 34 #[.agg (s.cs A n c0), iv bits] w (cvS s bits) n (cvF s.a2 bits xs) 0 := by
  rcases hb2 with rfl | rfl <;> rcases (vS_yes hv).2.1 with h | h
  · exact sconv_e8 s A n c0 b o xs hv h hn hc0 w hA
  · exact sconv_dn s A n c0 b o xs hv h hn hc0 w hA
  · exact sconv_up s A n c0 b o xs hv h hn hc0 w hA
  · exact sconv_e16 s A n c0 b o xs hv h hn hc0 w hA
end Go.Proofs.Ytnmoiolddfboiaa.SX

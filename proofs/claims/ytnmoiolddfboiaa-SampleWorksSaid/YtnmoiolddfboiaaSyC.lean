/- A piece of a sample, as the reference makes it. -/
import Derived.Test.YtnmoiolddfboiaaSxX
import Derived.Laws.AppendOwnNone
namespace Go.Proofs.Ytnmoiolddfboiaa.SX
open Go.RowKit Go.Proofs.YtnmoiolddfboiaaW.PrintLast Go.Proofs.Ytnmoiolddfboiaa.TX Go.Proofs.Ytnmoiolddfboiaa.Cu
set_option linter.unusedVariables false
set_option linter.unusedSimpArgs false
set_option maxHeartbeats 16000000 in
set_option maxRecDepth 100000 in
theorem rcrop_some (s : S) (A : Option Addr) (n c0 b o : Nat) (xs : Nat → Int) (f t : Nat) (hv : vS s n xs = true) (hft : f < t) (htn : t ≤ n) (hn : n ≤ 9223372036854775807) (hc0 : n ≤ c0) (w : World) (hA : DataAt w A n b o xs) : Gives 36 #[.agg (s.cs A n c0), iv f, iv t] w (cropS s f t) (t - f) (fun i => xs (f + i)) 0 := by
  unfold Gives
  have H0 := Lib.hid (show ((w.alloc (Obj.cells (s.cs A n c0) 24)).alloc (Obj.cells #[Value.string ⟨#[]⟩, Value.slice none 0 0, iv 0, iv 0, iv 0, iv 0, iv 0, iv 0, iv 0, iv 0, iv 0, iv 0, iv 0] 24)).heap[w.heap.size + 1]? = some (.cells (S.zero.cs none 0 0) 24 (0, 0)) from heap_alloc2_new w (Obj.cells (s.cs A n c0) 24) (Obj.cells #[Value.string ⟨#[]⟩, Value.slice none 0 0, iv 0, iv 0, iv 0, iv 0, iv 0, iv 0, iv 0, iv 0, iv 0, iv 0, iv 0] 24))
  have B0 : Below w.heap.size w ((w.alloc (Obj.cells (s.cs A n c0) 24)).alloc (Obj.cells #[Value.string ⟨#[]⟩, Value.slice none 0 0, iv 0, iv 0, iv 0, iv 0, iv 0, iv 0, iv 0, iv 0, iv 0, iv 0, iv 0] 24)) := ((Below.refl _ _).alloc (Nat.le_refl _) _).alloc (by simp) _
  have P0 := Lib.hid (show ((w.alloc (Obj.cells (s.cs A n c0) 24)).alloc (Obj.cells #[Value.string ⟨#[]⟩, Value.slice none 0 0, iv 0, iv 0, iv 0, iv 0, iv 0, iv 0, iv 0, iv 0, iv 0, iv 0, iv 0] 24)).heap[w.heap.size]? = some (.cells (s.cs A n c0) 24 (0, 0)) from heap_alloc2_old w _ _)
  have D0 := Lib.hid (hA.later B0)
  have VC := Lib.hid (show ∀ (W : World), DataAt W A n b o xs → Calls Try.prog 25 #[.agg (s.cs A n c0)] W fun e w' => e = .returned (.bool true) ∧ Below W.heap.size W w' from fun W h => by have := rvalid_any s A n c0 b o xs hn hc0 W h; rwa [hv] at this)
  obtain ⟨_, _, n4, _, _, _, l7, l10⟩ := vS_yes hv
  unfold LpOk at l7 l10
  have HN := Lib.hid n4
  obtain ⟨i0, hi, hz0, hz1, hz2⟩ := info_parts info3
  have HD := Lib.hid hA
  have d1 : decide ((f : Int) < 0) = false := decide_eq_false (by omega)
  have d2 : decide ((t : Int) < f) = false := decide_eq_false (by omega)
  have d3 : decide ((n : Int) < t) = false := decide_eq_false (by omega)
  have n2 : decide (t < f) = false := decide_eq_false (by omega)
  have n3 : decide (n < t) = false := decide_eq_false (by omega)
  have i0_ : (0 : Int) ≤ (f : Int) := by omega
  have i1 : (0 : Int) ≤ (t : Int) := by omega
  have i2 : (f : Int) ≤ (t : Int) := by omega
  have i3 : (t : Int) ≤ (c0 : Int) := by omega
  have C7 := Lib.hid fun (W : World) => kept_any s.a7 s.a8 s.a9 f t (by omega) (by omega) (by omega) W
  have C10 := Lib.hid fun (W : World) => kept_any s.a10 s.a11 s.a12 f t (by omega) (by omega) (by omega) W
  have HTN := Lib.hid htn
  have tA := hA.top (by omega)
  subst tA
  have hmm : f + (t - f) ≤ n := by omega
  have hcd : ∀ (W : World), Below w.heap.size w W → ∀ j u, (rw_ (fun i => xs (f + i)) (t - f))[j]? = some u → W.cell? ((⟨b, o + f, none⟩ : Addr).add j) = some u := fun W hb j u hj => by
    have hjn : j < t - f := by have := (List.getElem?_eq_some_iff.1 hj).1; rwa [rw_len] at this
    rw [rw_at _ _ _ hjn] at hj
    obtain rfl := Option.some.inj hj
    rw [addLit]
    exact ((dataPart hA hmm).later hb).cell j hjn
  have HCD := Lib.hid hcd
  clear hmm hcd
  clear hA hv l7 l10
  go_enter Try.func36, Try.ntmps36
  go_upto_region 5 with (first
    | (refine wpList_load_row rfl 24 (.tmp 3) rfl (w.heap.size) rfl 24 _ (0, 0) _ P0.out Try.underlying24 rfl (S.i24 _ _ _ _) ?_)
    | (go_at_call 25; (with_reducible refine (VC.out _ D0.out).mono ?_); rintro e w1 ⟨rfl, hb1⟩; have P1 := Lib.hid (bkBelow P0.out hb1); have H1 := Lib.hid (bkBelow H0.out hb1); have p1 := (bkCell P1.out 1).trans (show _ = some (Value.slice (some ⟨b, o, none⟩) n c0) from rfl); have D1 := Lib.hid (D0.out.later hb1); have B1 := bdT B0 B0.size hb1))
  have HP := Lib.hid (bkLt P1.out)
  have HH := Lib.hid (bkLt H1.out)
  clear D1 p1
  go_upto_region 6 with (first
    | (refine wpList_load_row rfl 24 (.tmp 3) rfl (w.heap.size) rfl 24 _ (0, 0) _ P1.out Try.underlying24 rfl (S.i24 _ _ _ _) ?_)
    | (refine wpList_store_row rfl 24 (.tmp 8) (.tmp 30) rfl (w1.heap.size) (s.cs (some ⟨b, o, none⟩) n c0) rfl rfl 24 _ (heap_alloc_new w1 (Obj.cells #[Value.string ⟨#[]⟩, Value.slice none 0 0, iv 0, iv 0, iv 0, iv 0, iv 0, iv 0, iv 0, iv 0, iv 0, iv 0, iv 0] 24)) (S.i24 _ _ _ _) (S.sz S.zero s none _ 0 0 _ _) (S.one _ _ _ _) ?_; have K2 := below_setRow ((Below.refl w1.heap.size w1).alloc (Nat.le_refl _) (Obj.cells #[Value.string ⟨#[]⟩, Value.slice none 0 0, iv 0, iv 0, iv 0, iv 0, iv 0, iv 0, iv 0, iv 0, iv 0, iv 0, iv 0] 24)) (g := w1.heap.size) (Nat.le_refl _) (s.cs (some ⟨b, o, none⟩) n c0); have P2 := Lib.hid (bkBelow P1.out K2); have H2 := Lib.hid (bkBelow H1.out K2); have B2 := bdT B1 B1.size K2; have T2 := Lib.hid (setRow_heap _ _ _ (s.cs (some ⟨b, o, none⟩) n c0) _ _ (heap_alloc_new w1 (Obj.cells #[Value.string ⟨#[]⟩, Value.slice none 0 0, iv 0, iv 0, iv 0, iv 0, iv 0, iv 0, iv 0, iv 0, iv 0, iv 0, iv 0] 24))); clear P1 H1))
  have SZ : ((w1.alloc (Obj.cells #[Value.string ⟨#[]⟩, Value.slice none 0 0, iv 0, iv 0, iv 0, iv 0, iv 0, iv 0, iv 0, iv 0, iv 0, iv 0, iv 0] 24)).setRow w1.heap.size (s.cs (some ⟨b, o, none⟩) n c0)).heap.size = w1.heap.size + 1 := by simp
  have SB : Below w1.heap.size w1 ((w1.alloc (Obj.cells #[Value.string ⟨#[]⟩, Value.slice none 0 0, iv 0, iv 0, iv 0, iv 0, iv 0, iv 0, iv 0, iv 0, iv 0, iv 0, iv 0] 24)).setRow w1.heap.size (s.cs (some ⟨b, o, none⟩) n c0)) := below_setRow ((Below.refl _ _).alloc (Nat.le_refl _) _) (Nat.le_refl _) _
  generalize (w1.alloc (Obj.cells #[Value.string ⟨#[]⟩, Value.slice none 0 0, iv 0, iv 0, iv 0, iv 0, iv 0, iv 0, iv 0, iv 0, iv 0, iv 0, iv 0] 24)).setRow w1.heap.size (s.cs (some ⟨b, o, none⟩) n c0) = w2 at *
  have HS := Lib.hid SZ
  have MD := Lib.hid (World.ownsRow_made (e := 3) (size := 1) (base := w2.heap.size) w2 #[] 0 (Nat.le_refl _) (Nat.zero_le _) rfl)
  have p1 := (bkCell (bkAlloc P2.out (Obj.cells #[] 3)) 1).trans (show _ = some (Value.slice (some ⟨b, o, none⟩) n c0) from rfl)
  clear SZ SB
  go_upto_region 7 with (at_builtin; refine wpList_append_own _ rfl _ _ 22 rfl w2.heap.size 3 i0 (.int .i64 0) 1 8 Try.underlying22 hi hz0 hz1 hz2 rfl (by decide) _ _ _ rfl MD.out _ (t - f) _ (rw_ (fun i => xs (f + i)) (t - f)) rfl (by simp [rw_len]) (fun j u hj => HCD.out _ (B2.alloc B2.size (Obj.cells #[] 3)) j u hj) (by intro u hu; simp only [rw_, List.mem_map] at hu; obtain ⟨x, _, rfl⟩ := hu; rfl) (by unfold maxLen; have := HN.out; have := HTN.out; omega) (by have := HN.out; have := HTN.out; omega) (by simp) ?_; intro v' w3 hown hgrow _; have O3 := Lib.hid (ownEq hown (show 0 + (t - f) = t - f by omega) (show [] ++ rw_ (fun i => xs (f + i)) (t - f) = rw_ (fun i => xs (f + i)) (t - f) from rfl)); obtain ⟨A', c', g', rfl, _, _⟩ := ownDataV O3.out; have P3 := Lib.hid (grBlk (bkAlloc P2.out (Obj.cells #[] 3)) hgrow (by intro h; have := ownRowB MD.out _ h.symm; have := HP.out; have := HS.out; omega)); have H3 := Lib.hid (grBlk (bkAlloc H2.out (Obj.cells #[] 3)) hgrow (by intro h; have := ownRowB MD.out _ h.symm; have := HH.out; have := HS.out; omega)); have T3 := Lib.hid (grBlk (bkAlloc T2.out (Obj.cells #[] 3)) hgrow (by intro h; have := ownRowB MD.out _ h.symm; have := HS.out; omega)); have B3 := (B2.alloc B2.size (Obj.cells #[] 3)).grown hgrow (by have := B2.size; simp; omega) (fun k hk => by have := ownRowB MD.out k hk; have := HS.out; have := HP.out; omega); have t1 := (bkCell T3.out 1).trans (show _ = some (Value.slice (some ⟨b, o, none⟩) n c0) from rfl); have u1 := bkFrozen T3.out 1; clear hown hgrow)
  have P4 := Lib.hid (bkFar P3.out (p := ⟨w1.heap.size, 1, none⟩) (by have := HP.out; simp; omega) (.slice A' (t - f) c'))
  have H4 := Lib.hid (bkFar H3.out (p := ⟨w1.heap.size, 1, none⟩) (by have := HH.out; simp; omega) (.slice A' (t - f) c'))
  have T4 := Lib.hid (bkPut T3.out 1 (.slice A' (t - f) c') (S.set1 s (some ⟨b, o, none⟩) A' n c0 (t - f) c'))
  have O4 := Lib.hid (ownVC O3.out (p := ⟨w1.heap.size, 1, none⟩) (by have := HS.out; simp; omega) (.slice A' (t - f) c'))
  have B4 := B3.setCell (p := ⟨w1.heap.size, 1, none⟩) (Nat.le_of_lt HP.out) (.slice A' (t - f) c')
  clear p1 t1 u1 P3 H3 T3 O3 B3 P2 H2 T2 B2
  generalize w3.setCell ⟨w1.heap.size, 1, none⟩ (.slice A' (t - f) c') = w4 at *
  have p7 := (bkCell P4.out 7).trans (show _ = some (iv s.a7) from rfl)
  have p8 := (bkCell P4.out 8).trans (show _ = some (iv s.a8) from rfl)
  have p9 := (bkCell P4.out 9).trans (show _ = some (iv s.a9) from rfl)
  have t7 := (bkCell T4.out 7).trans (show _ = some (iv s.a7) from rfl)
  have t8 := (bkCell T4.out 8).trans (show _ = some (iv s.a8) from rfl)
  have t9 := (bkCell T4.out 9).trans (show _ = some (iv s.a9) from rfl)
  have u7 := bkFrozen T4.out 7
  have u8 := bkFrozen T4.out 8
  have u9 := bkFrozen T4.out 9
  go_upto_region 8 with (go_at_call 78; (with_reducible refine (C7.out _).mono ?_); rintro e w9 ⟨rfl, rfl⟩)
  have P5 := Lib.hid (bkFar (bkFar (bkFar P4.out (p := ⟨w1.heap.size, 7, none⟩) (by have := HP.out; simp; omega) (iv (cropK s.a7 s.a8 s.a9 f t).1)) (p := ⟨w1.heap.size, 8, none⟩) (by have := HP.out; simp; omega) (iv (cropK s.a7 s.a8 s.a9 f t).2.1)) (p := ⟨w1.heap.size, 9, none⟩) (by have := HP.out; simp; omega) (iv (cropK s.a7 s.a8 s.a9 f t).2.2))
  have H5 := Lib.hid (bkFar (bkFar (bkFar H4.out (p := ⟨w1.heap.size, 7, none⟩) (by have := HH.out; simp; omega) (iv (cropK s.a7 s.a8 s.a9 f t).1)) (p := ⟨w1.heap.size, 8, none⟩) (by have := HH.out; simp; omega) (iv (cropK s.a7 s.a8 s.a9 f t).2.1)) (p := ⟨w1.heap.size, 9, none⟩) (by have := HH.out; simp; omega) (iv (cropK s.a7 s.a8 s.a9 f t).2.2))
  have T5 := Lib.hid (bkPut (bkPut (bkPut T4.out 7 (iv (cropK s.a7 s.a8 s.a9 f t).1) (show _ = S.cs ⟨s.nm, s.a2, s.a3, s.a4, s.a5, s.a6, (cropK s.a7 s.a8 s.a9 f t).1, s.a8, s.a9, s.a10, s.a11, s.a12⟩ A' (t - f) c' from rfl)) 8 (iv (cropK s.a7 s.a8 s.a9 f t).2.1) (show _ = S.cs ⟨s.nm, s.a2, s.a3, s.a4, s.a5, s.a6, (cropK s.a7 s.a8 s.a9 f t).1, (cropK s.a7 s.a8 s.a9 f t).2.1, s.a9, s.a10, s.a11, s.a12⟩ A' (t - f) c' from rfl)) 9 (iv (cropK s.a7 s.a8 s.a9 f t).2.2) (show _ = S.cs ⟨s.nm, s.a2, s.a3, s.a4, s.a5, s.a6, (cropK s.a7 s.a8 s.a9 f t).1, (cropK s.a7 s.a8 s.a9 f t).2.1, (cropK s.a7 s.a8 s.a9 f t).2.2, s.a10, s.a11, s.a12⟩ A' (t - f) c' from rfl))
  have O5 := Lib.hid (ownVC (ownVC (ownVC O4.out (p := ⟨w1.heap.size, 7, none⟩) (by have := HS.out; simp; omega) (iv (cropK s.a7 s.a8 s.a9 f t).1)) (p := ⟨w1.heap.size, 8, none⟩) (by have := HS.out; simp; omega) (iv (cropK s.a7 s.a8 s.a9 f t).2.1)) (p := ⟨w1.heap.size, 9, none⟩) (by have := HS.out; simp; omega) (iv (cropK s.a7 s.a8 s.a9 f t).2.2))
  have B5 := (((B4.setCell (p := ⟨w1.heap.size, 7, none⟩) (Nat.le_of_lt HP.out) (iv (cropK s.a7 s.a8 s.a9 f t).1)).setCell (p := ⟨w1.heap.size, 8, none⟩) (Nat.le_of_lt HP.out) (iv (cropK s.a7 s.a8 s.a9 f t).2.1)).setCell (p := ⟨w1.heap.size, 9, none⟩) (Nat.le_of_lt HP.out) (iv (cropK s.a7 s.a8 s.a9 f t).2.2))
  clear p7 t7 u7 p8 t8 u8 p9 t9 u9 P4 H4 T4 O4 B4
  have p10 := (bkCell P5.out 10).trans (show _ = some (iv s.a10) from rfl)
  have p11 := (bkCell P5.out 11).trans (show _ = some (iv s.a11) from rfl)
  have p12 := (bkCell P5.out 12).trans (show _ = some (iv s.a12) from rfl)
  have t10 := (bkCell T5.out 10).trans (show _ = some (iv s.a10) from rfl)
  have t11 := (bkCell T5.out 11).trans (show _ = some (iv s.a11) from rfl)
  have t12 := (bkCell T5.out 12).trans (show _ = some (iv s.a12) from rfl)
  have u10 := bkFrozen T5.out 10
  have u11 := bkFrozen T5.out 11
  have u12 := bkFrozen T5.out 12
  go_upto_region 9 with (go_at_call 78; (with_reducible refine (C10.out _).mono ?_); rintro e w9 ⟨rfl, rfl⟩)
  have P6 := Lib.hid (bkFar (bkFar (bkFar P5.out (p := ⟨w1.heap.size, 10, none⟩) (by have := HP.out; simp; omega) (iv (cropK s.a10 s.a11 s.a12 f t).1)) (p := ⟨w1.heap.size, 11, none⟩) (by have := HP.out; simp; omega) (iv (cropK s.a10 s.a11 s.a12 f t).2.1)) (p := ⟨w1.heap.size, 12, none⟩) (by have := HP.out; simp; omega) (iv (cropK s.a10 s.a11 s.a12 f t).2.2))
  have H6 := Lib.hid (bkFar (bkFar (bkFar H5.out (p := ⟨w1.heap.size, 10, none⟩) (by have := HH.out; simp; omega) (iv (cropK s.a10 s.a11 s.a12 f t).1)) (p := ⟨w1.heap.size, 11, none⟩) (by have := HH.out; simp; omega) (iv (cropK s.a10 s.a11 s.a12 f t).2.1)) (p := ⟨w1.heap.size, 12, none⟩) (by have := HH.out; simp; omega) (iv (cropK s.a10 s.a11 s.a12 f t).2.2))
  have T6 := Lib.hid (bkPut (bkPut (bkPut T5.out 10 (iv (cropK s.a10 s.a11 s.a12 f t).1) (show _ = S.cs ⟨s.nm, s.a2, s.a3, s.a4, s.a5, s.a6, (cropK s.a7 s.a8 s.a9 f t).1, (cropK s.a7 s.a8 s.a9 f t).2.1, (cropK s.a7 s.a8 s.a9 f t).2.2, (cropK s.a10 s.a11 s.a12 f t).1, s.a11, s.a12⟩ A' (t - f) c' from rfl)) 11 (iv (cropK s.a10 s.a11 s.a12 f t).2.1) (show _ = S.cs ⟨s.nm, s.a2, s.a3, s.a4, s.a5, s.a6, (cropK s.a7 s.a8 s.a9 f t).1, (cropK s.a7 s.a8 s.a9 f t).2.1, (cropK s.a7 s.a8 s.a9 f t).2.2, (cropK s.a10 s.a11 s.a12 f t).1, (cropK s.a10 s.a11 s.a12 f t).2.1, s.a12⟩ A' (t - f) c' from rfl)) 12 (iv (cropK s.a10 s.a11 s.a12 f t).2.2) (show _ = S.cs ⟨s.nm, s.a2, s.a3, s.a4, s.a5, s.a6, (cropK s.a7 s.a8 s.a9 f t).1, (cropK s.a7 s.a8 s.a9 f t).2.1, (cropK s.a7 s.a8 s.a9 f t).2.2, (cropK s.a10 s.a11 s.a12 f t).1, (cropK s.a10 s.a11 s.a12 f t).2.1, (cropK s.a10 s.a11 s.a12 f t).2.2⟩ A' (t - f) c' from rfl))
  have O6 := Lib.hid (ownVC (ownVC (ownVC O5.out (p := ⟨w1.heap.size, 10, none⟩) (by have := HS.out; simp; omega) (iv (cropK s.a10 s.a11 s.a12 f t).1)) (p := ⟨w1.heap.size, 11, none⟩) (by have := HS.out; simp; omega) (iv (cropK s.a10 s.a11 s.a12 f t).2.1)) (p := ⟨w1.heap.size, 12, none⟩) (by have := HS.out; simp; omega) (iv (cropK s.a10 s.a11 s.a12 f t).2.2))
  have B6 := (((B5.setCell (p := ⟨w1.heap.size, 10, none⟩) (Nat.le_of_lt HP.out) (iv (cropK s.a10 s.a11 s.a12 f t).1)).setCell (p := ⟨w1.heap.size, 11, none⟩) (Nat.le_of_lt HP.out) (iv (cropK s.a10 s.a11 s.a12 f t).2.1)).setCell (p := ⟨w1.heap.size, 12, none⟩) (Nat.le_of_lt HP.out) (iv (cropK s.a10 s.a11 s.a12 f t).2.2))
  clear p10 t10 u10 p11 t11 u11 p12 t12 u12 P5 H5 T5 O5 B5
  have hT : cropS s f t = ⟨s.nm, s.a2, s.a3, s.a4, s.a5, s.a6, (cropK s.a7 s.a8 s.a9 f t).1, (cropK s.a7 s.a8 s.a9 f t).2.1, (cropK s.a7 s.a8 s.a9 f t).2.2, (cropK s.a10 s.a11 s.a12 f t).1, (cropK s.a10 s.a11 s.a12 f t).2.1, (cropK s.a10 s.a11 s.a12 f t).2.2⟩ := rfl
  go_wp2_with (first
    | (refine wpList_load_row rfl 24 (.tmp 8) rfl (w1.heap.size) rfl 24 _ (0, 0) _ T6.out Try.underlying24 rfl (S.i24 _ _ _ _) ?_)
    | (refine wpList_store_row rfl 24 (.tmp 6) (.tmp 71) rfl (w.heap.size + 1) (S.cs ⟨s.nm, s.a2, s.a3, s.a4, s.a5, s.a6, (cropK s.a7 s.a8 s.a9 f t).1, (cropK s.a7 s.a8 s.a9 f t).2.1, (cropK s.a7 s.a8 s.a9 f t).2.2, (cropK s.a10 s.a11 s.a12 f t).1, (cropK s.a10 s.a11 s.a12 f t).2.1, (cropK s.a10 s.a11 s.a12 f t).2.2⟩ A' (t - f) c') rfl rfl 24 _ H6.out (S.i24 _ _ _ _) (S.sz S.zero _ none _ 0 0 _ _) (S.one _ _ _ _) ?_))
  refine bodyPost_ret (res_ct rfl _ _ (w.heap.size + 1) 24 _ (0, 0) _ rfl (setRow_heap _ _ _ _ _ _ H6.out) Try.underlying24 rfl (S.i24 _ _ _ _)) rfl ⟨A', c', rfl, ownBase2 (ownVR O6.out (by have := HH.out; have := HS.out; omega) _) (by have := HP.out; have := HS.out; omega), below_setRow B6 (by omega) _⟩
set_option maxHeartbeats 16000000 in
set_option maxRecDepth 100000 in
theorem rcrop_some0 (s : S) (A : Option Addr) (n c0 b o : Nat) (xs : Nat → Int) (f t : Nat) (hv : vS s n xs = true) (ad : Addr) (hA0 : A = some ad) (hft : f = t) (hcf : f < c0) (htn : t ≤ n) (hn : n ≤ 9223372036854775807) (hc0 : n ≤ c0) (w : World) (hA : DataAt w A n b o xs) : Gives 36 #[.agg (s.cs A n c0), iv f, iv t] w (cropS s f t) (t - f) (fun i => xs (f + i)) 0 := by
  unfold Gives
  have H0 := Lib.hid (show ((w.alloc (Obj.cells (s.cs A n c0) 24)).alloc (Obj.cells #[Value.string ⟨#[]⟩, Value.slice none 0 0, iv 0, iv 0, iv 0, iv 0, iv 0, iv 0, iv 0, iv 0, iv 0, iv 0, iv 0] 24)).heap[w.heap.size + 1]? = some (.cells (S.zero.cs none 0 0) 24 (0, 0)) from heap_alloc2_new w (Obj.cells (s.cs A n c0) 24) (Obj.cells #[Value.string ⟨#[]⟩, Value.slice none 0 0, iv 0, iv 0, iv 0, iv 0, iv 0, iv 0, iv 0, iv 0, iv 0, iv 0, iv 0] 24))
  have B0 : Below w.heap.size w ((w.alloc (Obj.cells (s.cs A n c0) 24)).alloc (Obj.cells #[Value.string ⟨#[]⟩, Value.slice none 0 0, iv 0, iv 0, iv 0, iv 0, iv 0, iv 0, iv 0, iv 0, iv 0, iv 0, iv 0] 24)) := ((Below.refl _ _).alloc (Nat.le_refl _) _).alloc (by simp) _
  have P0 := Lib.hid (show ((w.alloc (Obj.cells (s.cs A n c0) 24)).alloc (Obj.cells #[Value.string ⟨#[]⟩, Value.slice none 0 0, iv 0, iv 0, iv 0, iv 0, iv 0, iv 0, iv 0, iv 0, iv 0, iv 0, iv 0] 24)).heap[w.heap.size]? = some (.cells (s.cs A n c0) 24 (0, 0)) from heap_alloc2_old w _ _)
  have D0 := Lib.hid (hA.later B0)
  have VC := Lib.hid (show ∀ (W : World), DataAt W A n b o xs → Calls Try.prog 25 #[.agg (s.cs A n c0)] W fun e w' => e = .returned (.bool true) ∧ Below W.heap.size W w' from fun W h => by have := rvalid_any s A n c0 b o xs hn hc0 W h; rwa [hv] at this)
  obtain ⟨_, _, n4, _, _, _, l7, l10⟩ := vS_yes hv
  unfold LpOk at l7 l10
  have HN := Lib.hid n4
  obtain ⟨i0, hi, hz0, hz1, hz2⟩ := info_parts info3
  have HD := Lib.hid hA
  have d1 : decide ((f : Int) < 0) = false := decide_eq_false (by omega)
  have d2 : decide ((t : Int) < f) = false := decide_eq_false (by omega)
  have d3 : decide ((n : Int) < t) = false := decide_eq_false (by omega)
  have n2 : decide (t < f) = false := decide_eq_false (by omega)
  have n3 : decide (n < t) = false := decide_eq_false (by omega)
  have i0_ : (0 : Int) ≤ (f : Int) := by omega
  have i1 : (0 : Int) ≤ (t : Int) := by omega
  have i2 : (f : Int) ≤ (t : Int) := by omega
  have i3 : (t : Int) ≤ (c0 : Int) := by omega
  have C7 := Lib.hid fun (W : World) => kept_any s.a7 s.a8 s.a9 f t (by omega) (by omega) (by omega) W
  have C10 := Lib.hid fun (W : World) => kept_any s.a10 s.a11 s.a12 f t (by omega) (by omega) (by omega) W
  subst hA0
  have HTN := Lib.hid htn
  have HFT := Lib.hid hft
  have hc1 : ¬ c0 = f := by omega
  have hc2 : ¬ f = c0 := by omega
  clear hft hcf
  clear hA hv l7 l10
  go_enter Try.func36, Try.ntmps36
  go_upto_region 5 with (first
    | (refine wpList_load_row rfl 24 (.tmp 3) rfl (w.heap.size) rfl 24 _ (0, 0) _ P0.out Try.underlying24 rfl (S.i24 _ _ _ _) ?_)
    | (go_at_call 25; (with_reducible refine (VC.out _ D0.out).mono ?_); rintro e w1 ⟨rfl, hb1⟩; have P1 := Lib.hid (bkBelow P0.out hb1); have H1 := Lib.hid (bkBelow H0.out hb1); have p1 := (bkCell P1.out 1).trans (show _ = some (Value.slice (some ad) n c0) from rfl); have D1 := Lib.hid (D0.out.later hb1); have B1 := bdT B0 B0.size hb1))
  have HP := Lib.hid (bkLt P1.out)
  have HH := Lib.hid (bkLt H1.out)
  clear D1 p1
  go_upto_region 6 with (first
    | (refine wpList_load_row rfl 24 (.tmp 3) rfl (w.heap.size) rfl 24 _ (0, 0) _ P1.out Try.underlying24 rfl (S.i24 _ _ _ _) ?_)
    | (refine wpList_store_row rfl 24 (.tmp 8) (.tmp 30) rfl (w1.heap.size) (s.cs (some ad) n c0) rfl rfl 24 _ (heap_alloc_new w1 (Obj.cells #[Value.string ⟨#[]⟩, Value.slice none 0 0, iv 0, iv 0, iv 0, iv 0, iv 0, iv 0, iv 0, iv 0, iv 0, iv 0, iv 0] 24)) (S.i24 _ _ _ _) (S.sz S.zero s none _ 0 0 _ _) (S.one _ _ _ _) ?_; have K2 := below_setRow ((Below.refl w1.heap.size w1).alloc (Nat.le_refl _) (Obj.cells #[Value.string ⟨#[]⟩, Value.slice none 0 0, iv 0, iv 0, iv 0, iv 0, iv 0, iv 0, iv 0, iv 0, iv 0, iv 0, iv 0] 24)) (g := w1.heap.size) (Nat.le_refl _) (s.cs (some ad) n c0); have P2 := Lib.hid (bkBelow P1.out K2); have H2 := Lib.hid (bkBelow H1.out K2); have B2 := bdT B1 B1.size K2; have T2 := Lib.hid (setRow_heap _ _ _ (s.cs (some ad) n c0) _ _ (heap_alloc_new w1 (Obj.cells #[Value.string ⟨#[]⟩, Value.slice none 0 0, iv 0, iv 0, iv 0, iv 0, iv 0, iv 0, iv 0, iv 0, iv 0, iv 0, iv 0] 24))); clear P1 H1))
  have SZ : ((w1.alloc (Obj.cells #[Value.string ⟨#[]⟩, Value.slice none 0 0, iv 0, iv 0, iv 0, iv 0, iv 0, iv 0, iv 0, iv 0, iv 0, iv 0, iv 0] 24)).setRow w1.heap.size (s.cs (some ad) n c0)).heap.size = w1.heap.size + 1 := by simp
  have SB : Below w1.heap.size w1 ((w1.alloc (Obj.cells #[Value.string ⟨#[]⟩, Value.slice none 0 0, iv 0, iv 0, iv 0, iv 0, iv 0, iv 0, iv 0, iv 0, iv 0, iv 0, iv 0] 24)).setRow w1.heap.size (s.cs (some ad) n c0)) := below_setRow ((Below.refl _ _).alloc (Nat.le_refl _) _) (Nat.le_refl _) _
  generalize (w1.alloc (Obj.cells #[Value.string ⟨#[]⟩, Value.slice none 0 0, iv 0, iv 0, iv 0, iv 0, iv 0, iv 0, iv 0, iv 0, iv 0, iv 0, iv 0] 24)).setRow w1.heap.size (s.cs (some ad) n c0) = w2 at *
  have HS := Lib.hid SZ
  have MD := Lib.hid (World.ownsRow_made (e := 3) (size := 1) (base := w2.heap.size) w2 #[] 0 (Nat.le_refl _) (Nat.zero_le _) rfl)
  have p1 := (bkCell (bkAlloc P2.out (Obj.cells #[] 3)) 1).trans (show _ = some (Value.slice (some ad) n c0) from rfl)
  clear SZ SB
  go_upto_region 7 with (at_builtin; refine wpList_append_own _ rfl _ _ 22 rfl w2.heap.size 3 i0 (.int .i64 0) 1 8 Try.underlying22 hi hz0 hz1 hz2 rfl (by decide) _ _ _ rfl MD.out _ (t - f) _ (rw_ (fun i => xs (f + i)) (t - f)) rfl (by simp [rw_len]) (fun j u hj => absurd (List.getElem?_eq_some_iff.1 hj).1 (by rw [rw_len]; have := HFT.out; omega)) (by intro u hu; simp only [rw_, List.mem_map] at hu; obtain ⟨x, _, rfl⟩ := hu; rfl) (by unfold maxLen; have := HN.out; have := HTN.out; omega) (by have := HN.out; have := HTN.out; omega) (by simp) ?_; intro v' w3 hown hgrow _; have O3 := Lib.hid (ownEq hown (show 0 + (t - f) = t - f by omega) (show [] ++ rw_ (fun i => xs (f + i)) (t - f) = rw_ (fun i => xs (f + i)) (t - f) from rfl)); obtain ⟨A', c', g', rfl, _, _⟩ := ownDataV O3.out; have P3 := Lib.hid (grBlk (bkAlloc P2.out (Obj.cells #[] 3)) hgrow (by intro h; have := ownRowB MD.out _ h.symm; have := HP.out; have := HS.out; omega)); have H3 := Lib.hid (grBlk (bkAlloc H2.out (Obj.cells #[] 3)) hgrow (by intro h; have := ownRowB MD.out _ h.symm; have := HH.out; have := HS.out; omega)); have T3 := Lib.hid (grBlk (bkAlloc T2.out (Obj.cells #[] 3)) hgrow (by intro h; have := ownRowB MD.out _ h.symm; have := HS.out; omega)); have B3 := (B2.alloc B2.size (Obj.cells #[] 3)).grown hgrow (by have := B2.size; simp; omega) (fun k hk => by have := ownRowB MD.out k hk; have := HS.out; have := HP.out; omega); have t1 := (bkCell T3.out 1).trans (show _ = some (Value.slice (some ad) n c0) from rfl); have u1 := bkFrozen T3.out 1; clear hown hgrow)
  have P4 := Lib.hid (bkFar P3.out (p := ⟨w1.heap.size, 1, none⟩) (by have := HP.out; simp; omega) (.slice A' (t - f) c'))
  have H4 := Lib.hid (bkFar H3.out (p := ⟨w1.heap.size, 1, none⟩) (by have := HH.out; simp; omega) (.slice A' (t - f) c'))
  have T4 := Lib.hid (bkPut T3.out 1 (.slice A' (t - f) c') (S.set1 s (some ad) A' n c0 (t - f) c'))
  have O4 := Lib.hid (ownVC O3.out (p := ⟨w1.heap.size, 1, none⟩) (by have := HS.out; simp; omega) (.slice A' (t - f) c'))
  have B4 := B3.setCell (p := ⟨w1.heap.size, 1, none⟩) (Nat.le_of_lt HP.out) (.slice A' (t - f) c')
  clear p1 t1 u1 P3 H3 T3 O3 B3 P2 H2 T2 B2
  generalize w3.setCell ⟨w1.heap.size, 1, none⟩ (.slice A' (t - f) c') = w4 at *
  have p7 := (bkCell P4.out 7).trans (show _ = some (iv s.a7) from rfl)
  have p8 := (bkCell P4.out 8).trans (show _ = some (iv s.a8) from rfl)
  have p9 := (bkCell P4.out 9).trans (show _ = some (iv s.a9) from rfl)
  have t7 := (bkCell T4.out 7).trans (show _ = some (iv s.a7) from rfl)
  have t8 := (bkCell T4.out 8).trans (show _ = some (iv s.a8) from rfl)
  have t9 := (bkCell T4.out 9).trans (show _ = some (iv s.a9) from rfl)
  have u7 := bkFrozen T4.out 7
  have u8 := bkFrozen T4.out 8
  have u9 := bkFrozen T4.out 9
  go_upto_region 8 with (go_at_call 78; (with_reducible refine (C7.out _).mono ?_); rintro e w9 ⟨rfl, rfl⟩)
  have P5 := Lib.hid (bkFar (bkFar (bkFar P4.out (p := ⟨w1.heap.size, 7, none⟩) (by have := HP.out; simp; omega) (iv (cropK s.a7 s.a8 s.a9 f t).1)) (p := ⟨w1.heap.size, 8, none⟩) (by have := HP.out; simp; omega) (iv (cropK s.a7 s.a8 s.a9 f t).2.1)) (p := ⟨w1.heap.size, 9, none⟩) (by have := HP.out; simp; omega) (iv (cropK s.a7 s.a8 s.a9 f t).2.2))
  have H5 := Lib.hid (bkFar (bkFar (bkFar H4.out (p := ⟨w1.heap.size, 7, none⟩) (by have := HH.out; simp; omega) (iv (cropK s.a7 s.a8 s.a9 f t).1)) (p := ⟨w1.heap.size, 8, none⟩) (by have := HH.out; simp; omega) (iv (cropK s.a7 s.a8 s.a9 f t).2.1)) (p := ⟨w1.heap.size, 9, none⟩) (by have := HH.out; simp; omega) (iv (cropK s.a7 s.a8 s.a9 f t).2.2))
  have T5 := Lib.hid (bkPut (bkPut (bkPut T4.out 7 (iv (cropK s.a7 s.a8 s.a9 f t).1) (show _ = S.cs ⟨s.nm, s.a2, s.a3, s.a4, s.a5, s.a6, (cropK s.a7 s.a8 s.a9 f t).1, s.a8, s.a9, s.a10, s.a11, s.a12⟩ A' (t - f) c' from rfl)) 8 (iv (cropK s.a7 s.a8 s.a9 f t).2.1) (show _ = S.cs ⟨s.nm, s.a2, s.a3, s.a4, s.a5, s.a6, (cropK s.a7 s.a8 s.a9 f t).1, (cropK s.a7 s.a8 s.a9 f t).2.1, s.a9, s.a10, s.a11, s.a12⟩ A' (t - f) c' from rfl)) 9 (iv (cropK s.a7 s.a8 s.a9 f t).2.2) (show _ = S.cs ⟨s.nm, s.a2, s.a3, s.a4, s.a5, s.a6, (cropK s.a7 s.a8 s.a9 f t).1, (cropK s.a7 s.a8 s.a9 f t).2.1, (cropK s.a7 s.a8 s.a9 f t).2.2, s.a10, s.a11, s.a12⟩ A' (t - f) c' from rfl))
  have O5 := Lib.hid (ownVC (ownVC (ownVC O4.out (p := ⟨w1.heap.size, 7, none⟩) (by have := HS.out; simp; omega) (iv (cropK s.a7 s.a8 s.a9 f t).1)) (p := ⟨w1.heap.size, 8, none⟩) (by have := HS.out; simp; omega) (iv (cropK s.a7 s.a8 s.a9 f t).2.1)) (p := ⟨w1.heap.size, 9, none⟩) (by have := HS.out; simp; omega) (iv (cropK s.a7 s.a8 s.a9 f t).2.2))
  have B5 := (((B4.setCell (p := ⟨w1.heap.size, 7, none⟩) (Nat.le_of_lt HP.out) (iv (cropK s.a7 s.a8 s.a9 f t).1)).setCell (p := ⟨w1.heap.size, 8, none⟩) (Nat.le_of_lt HP.out) (iv (cropK s.a7 s.a8 s.a9 f t).2.1)).setCell (p := ⟨w1.heap.size, 9, none⟩) (Nat.le_of_lt HP.out) (iv (cropK s.a7 s.a8 s.a9 f t).2.2))
  clear p7 t7 u7 p8 t8 u8 p9 t9 u9 P4 H4 T4 O4 B4
  have p10 := (bkCell P5.out 10).trans (show _ = some (iv s.a10) from rfl)
  have p11 := (bkCell P5.out 11).trans (show _ = some (iv s.a11) from rfl)
  have p12 := (bkCell P5.out 12).trans (show _ = some (iv s.a12) from rfl)
  have t10 := (bkCell T5.out 10).trans (show _ = some (iv s.a10) from rfl)
  have t11 := (bkCell T5.out 11).trans (show _ = some (iv s.a11) from rfl)
  have t12 := (bkCell T5.out 12).trans (show _ = some (iv s.a12) from rfl)
  have u10 := bkFrozen T5.out 10
  have u11 := bkFrozen T5.out 11
  have u12 := bkFrozen T5.out 12
  go_upto_region 9 with (go_at_call 78; (with_reducible refine (C10.out _).mono ?_); rintro e w9 ⟨rfl, rfl⟩)
  have P6 := Lib.hid (bkFar (bkFar (bkFar P5.out (p := ⟨w1.heap.size, 10, none⟩) (by have := HP.out; simp; omega) (iv (cropK s.a10 s.a11 s.a12 f t).1)) (p := ⟨w1.heap.size, 11, none⟩) (by have := HP.out; simp; omega) (iv (cropK s.a10 s.a11 s.a12 f t).2.1)) (p := ⟨w1.heap.size, 12, none⟩) (by have := HP.out; simp; omega) (iv (cropK s.a10 s.a11 s.a12 f t).2.2))
  have H6 := Lib.hid (bkFar (bkFar (bkFar H5.out (p := ⟨w1.heap.size, 10, none⟩) (by have := HH.out; simp; omega) (iv (cropK s.a10 s.a11 s.a12 f t).1)) (p := ⟨w1.heap.size, 11, none⟩) (by have := HH.out; simp; omega) (iv (cropK s.a10 s.a11 s.a12 f t).2.1)) (p := ⟨w1.heap.size, 12, none⟩) (by have := HH.out; simp; omega) (iv (cropK s.a10 s.a11 s.a12 f t).2.2))
  have T6 := Lib.hid (bkPut (bkPut (bkPut T5.out 10 (iv (cropK s.a10 s.a11 s.a12 f t).1) (show _ = S.cs ⟨s.nm, s.a2, s.a3, s.a4, s.a5, s.a6, (cropK s.a7 s.a8 s.a9 f t).1, (cropK s.a7 s.a8 s.a9 f t).2.1, (cropK s.a7 s.a8 s.a9 f t).2.2, (cropK s.a10 s.a11 s.a12 f t).1, s.a11, s.a12⟩ A' (t - f) c' from rfl)) 11 (iv (cropK s.a10 s.a11 s.a12 f t).2.1) (show _ = S.cs ⟨s.nm, s.a2, s.a3, s.a4, s.a5, s.a6, (cropK s.a7 s.a8 s.a9 f t).1, (cropK s.a7 s.a8 s.a9 f t).2.1, (cropK s.a7 s.a8 s.a9 f t).2.2, (cropK s.a10 s.a11 s.a12 f t).1, (cropK s.a10 s.a11 s.a12 f t).2.1, s.a12⟩ A' (t - f) c' from rfl)) 12 (iv (cropK s.a10 s.a11 s.a12 f t).2.2) (show _ = S.cs ⟨s.nm, s.a2, s.a3, s.a4, s.a5, s.a6, (cropK s.a7 s.a8 s.a9 f t).1, (cropK s.a7 s.a8 s.a9 f t).2.1, (cropK s.a7 s.a8 s.a9 f t).2.2, (cropK s.a10 s.a11 s.a12 f t).1, (cropK s.a10 s.a11 s.a12 f t).2.1, (cropK s.a10 s.a11 s.a12 f t).2.2⟩ A' (t - f) c' from rfl))
  have O6 := Lib.hid (ownVC (ownVC (ownVC O5.out (p := ⟨w1.heap.size, 10, none⟩) (by have := HS.out; simp; omega) (iv (cropK s.a10 s.a11 s.a12 f t).1)) (p := ⟨w1.heap.size, 11, none⟩) (by have := HS.out; simp; omega) (iv (cropK s.a10 s.a11 s.a12 f t).2.1)) (p := ⟨w1.heap.size, 12, none⟩) (by have := HS.out; simp; omega) (iv (cropK s.a10 s.a11 s.a12 f t).2.2))
  have B6 := (((B5.setCell (p := ⟨w1.heap.size, 10, none⟩) (Nat.le_of_lt HP.out) (iv (cropK s.a10 s.a11 s.a12 f t).1)).setCell (p := ⟨w1.heap.size, 11, none⟩) (Nat.le_of_lt HP.out) (iv (cropK s.a10 s.a11 s.a12 f t).2.1)).setCell (p := ⟨w1.heap.size, 12, none⟩) (Nat.le_of_lt HP.out) (iv (cropK s.a10 s.a11 s.a12 f t).2.2))
  clear p10 t10 u10 p11 t11 u11 p12 t12 u12 P5 H5 T5 O5 B5
  have hT : cropS s f t = ⟨s.nm, s.a2, s.a3, s.a4, s.a5, s.a6, (cropK s.a7 s.a8 s.a9 f t).1, (cropK s.a7 s.a8 s.a9 f t).2.1, (cropK s.a7 s.a8 s.a9 f t).2.2, (cropK s.a10 s.a11 s.a12 f t).1, (cropK s.a10 s.a11 s.a12 f t).2.1, (cropK s.a10 s.a11 s.a12 f t).2.2⟩ := rfl
  go_wp2_with (first
    | (refine wpList_load_row rfl 24 (.tmp 8) rfl (w1.heap.size) rfl 24 _ (0, 0) _ T6.out Try.underlying24 rfl (S.i24 _ _ _ _) ?_)
    | (refine wpList_store_row rfl 24 (.tmp 6) (.tmp 71) rfl (w.heap.size + 1) (S.cs ⟨s.nm, s.a2, s.a3, s.a4, s.a5, s.a6, (cropK s.a7 s.a8 s.a9 f t).1, (cropK s.a7 s.a8 s.a9 f t).2.1, (cropK s.a7 s.a8 s.a9 f t).2.2, (cropK s.a10 s.a11 s.a12 f t).1, (cropK s.a10 s.a11 s.a12 f t).2.1, (cropK s.a10 s.a11 s.a12 f t).2.2⟩ A' (t - f) c') rfl rfl 24 _ H6.out (S.i24 _ _ _ _) (S.sz S.zero _ none _ 0 0 _ _) (S.one _ _ _ _) ?_))
  refine bodyPost_ret (res_ct rfl _ _ (w.heap.size + 1) 24 _ (0, 0) _ rfl (setRow_heap _ _ _ _ _ _ H6.out) Try.underlying24 rfl (S.i24 _ _ _ _)) rfl ⟨A', c', rfl, ownBase2 (ownVR O6.out (by have := HH.out; have := HS.out; omega) _) (by have := HP.out; have := HS.out; omega), below_setRow B6 (by omega) _⟩
set_option maxHeartbeats 16000000 in
set_option maxRecDepth 100000 in
theorem rcrop_some1 (s : S) (A : Option Addr) (n c0 b o : Nat) (xs : Nat → Int) (f t : Nat) (hv : vS s n xs = true) (ad : Addr) (hA0 : A = some ad) (hft : f = t) (hcf : c0 = f) (htn : t ≤ n) (hn : n ≤ 9223372036854775807) (hc0 : n ≤ c0) (w : World) (hA : DataAt w A n b o xs) : Gives 36 #[.agg (s.cs A n c0), iv f, iv t] w (cropS s f t) (t - f) (fun i => xs (f + i)) 0 := by
  unfold Gives
  have H0 := Lib.hid (show ((w.alloc (Obj.cells (s.cs A n c0) 24)).alloc (Obj.cells #[Value.string ⟨#[]⟩, Value.slice none 0 0, iv 0, iv 0, iv 0, iv 0, iv 0, iv 0, iv 0, iv 0, iv 0, iv 0, iv 0] 24)).heap[w.heap.size + 1]? = some (.cells (S.zero.cs none 0 0) 24 (0, 0)) from heap_alloc2_new w (Obj.cells (s.cs A n c0) 24) (Obj.cells #[Value.string ⟨#[]⟩, Value.slice none 0 0, iv 0, iv 0, iv 0, iv 0, iv 0, iv 0, iv 0, iv 0, iv 0, iv 0, iv 0] 24))
  have B0 : Below w.heap.size w ((w.alloc (Obj.cells (s.cs A n c0) 24)).alloc (Obj.cells #[Value.string ⟨#[]⟩, Value.slice none 0 0, iv 0, iv 0, iv 0, iv 0, iv 0, iv 0, iv 0, iv 0, iv 0, iv 0, iv 0] 24)) := ((Below.refl _ _).alloc (Nat.le_refl _) _).alloc (by simp) _
  have P0 := Lib.hid (show ((w.alloc (Obj.cells (s.cs A n c0) 24)).alloc (Obj.cells #[Value.string ⟨#[]⟩, Value.slice none 0 0, iv 0, iv 0, iv 0, iv 0, iv 0, iv 0, iv 0, iv 0, iv 0, iv 0, iv 0] 24)).heap[w.heap.size]? = some (.cells (s.cs A n c0) 24 (0, 0)) from heap_alloc2_old w _ _)
  have D0 := Lib.hid (hA.later B0)
  have VC := Lib.hid (show ∀ (W : World), DataAt W A n b o xs → Calls Try.prog 25 #[.agg (s.cs A n c0)] W fun e w' => e = .returned (.bool true) ∧ Below W.heap.size W w' from fun W h => by have := rvalid_any s A n c0 b o xs hn hc0 W h; rwa [hv] at this)
  obtain ⟨_, _, n4, _, _, _, l7, l10⟩ := vS_yes hv
  unfold LpOk at l7 l10
  have HN := Lib.hid n4
  obtain ⟨i0, hi, hz0, hz1, hz2⟩ := info_parts info3
  have HD := Lib.hid hA
  have d1 : decide ((f : Int) < 0) = false := decide_eq_false (by omega)
  have d2 : decide ((t : Int) < f) = false := decide_eq_false (by omega)
  have d3 : decide ((n : Int) < t) = false := decide_eq_false (by omega)
  have n2 : decide (t < f) = false := decide_eq_false (by omega)
  have n3 : decide (n < t) = false := decide_eq_false (by omega)
  have i0_ : (0 : Int) ≤ (f : Int) := by omega
  have i1 : (0 : Int) ≤ (t : Int) := by omega
  have i2 : (f : Int) ≤ (t : Int) := by omega
  have i3 : (t : Int) ≤ (c0 : Int) := by omega
  have C7 := Lib.hid fun (W : World) => kept_any s.a7 s.a8 s.a9 f t (by omega) (by omega) (by omega) W
  have C10 := Lib.hid fun (W : World) => kept_any s.a10 s.a11 s.a12 f t (by omega) (by omega) (by omega) W
  subst hA0
  have HTN := Lib.hid htn
  have HFT := Lib.hid hft
  have hc1 : (c0 = f) = True := eq_true hcf
  have hc2 : (f = c0) = True := eq_true hcf.symm
  clear hft hcf
  clear hA hv l7 l10
  go_enter Try.func36, Try.ntmps36
  go_upto_region 5 with (first
    | (refine wpList_load_row rfl 24 (.tmp 3) rfl (w.heap.size) rfl 24 _ (0, 0) _ P0.out Try.underlying24 rfl (S.i24 _ _ _ _) ?_)
    | (go_at_call 25; (with_reducible refine (VC.out _ D0.out).mono ?_); rintro e w1 ⟨rfl, hb1⟩; have P1 := Lib.hid (bkBelow P0.out hb1); have H1 := Lib.hid (bkBelow H0.out hb1); have p1 := (bkCell P1.out 1).trans (show _ = some (Value.slice (some ad) n c0) from rfl); have D1 := Lib.hid (D0.out.later hb1); have B1 := bdT B0 B0.size hb1))
  have HP := Lib.hid (bkLt P1.out)
  have HH := Lib.hid (bkLt H1.out)
  clear D1 p1
  go_upto_region 6 with (first
    | (refine wpList_load_row rfl 24 (.tmp 3) rfl (w.heap.size) rfl 24 _ (0, 0) _ P1.out Try.underlying24 rfl (S.i24 _ _ _ _) ?_)
    | (refine wpList_store_row rfl 24 (.tmp 8) (.tmp 30) rfl (w1.heap.size) (s.cs (some ad) n c0) rfl rfl 24 _ (heap_alloc_new w1 (Obj.cells #[Value.string ⟨#[]⟩, Value.slice none 0 0, iv 0, iv 0, iv 0, iv 0, iv 0, iv 0, iv 0, iv 0, iv 0, iv 0, iv 0] 24)) (S.i24 _ _ _ _) (S.sz S.zero s none _ 0 0 _ _) (S.one _ _ _ _) ?_; have K2 := below_setRow ((Below.refl w1.heap.size w1).alloc (Nat.le_refl _) (Obj.cells #[Value.string ⟨#[]⟩, Value.slice none 0 0, iv 0, iv 0, iv 0, iv 0, iv 0, iv 0, iv 0, iv 0, iv 0, iv 0, iv 0] 24)) (g := w1.heap.size) (Nat.le_refl _) (s.cs (some ad) n c0); have P2 := Lib.hid (bkBelow P1.out K2); have H2 := Lib.hid (bkBelow H1.out K2); have B2 := bdT B1 B1.size K2; have T2 := Lib.hid (setRow_heap _ _ _ (s.cs (some ad) n c0) _ _ (heap_alloc_new w1 (Obj.cells #[Value.string ⟨#[]⟩, Value.slice none 0 0, iv 0, iv 0, iv 0, iv 0, iv 0, iv 0, iv 0, iv 0, iv 0, iv 0, iv 0] 24))); clear P1 H1))
  have SZ : ((w1.alloc (Obj.cells #[Value.string ⟨#[]⟩, Value.slice none 0 0, iv 0, iv 0, iv 0, iv 0, iv 0, iv 0, iv 0, iv 0, iv 0, iv 0, iv 0] 24)).setRow w1.heap.size (s.cs (some ad) n c0)).heap.size = w1.heap.size + 1 := by simp
  have SB : Below w1.heap.size w1 ((w1.alloc (Obj.cells #[Value.string ⟨#[]⟩, Value.slice none 0 0, iv 0, iv 0, iv 0, iv 0, iv 0, iv 0, iv 0, iv 0, iv 0, iv 0, iv 0] 24)).setRow w1.heap.size (s.cs (some ad) n c0)) := below_setRow ((Below.refl _ _).alloc (Nat.le_refl _) _) (Nat.le_refl _) _
  generalize (w1.alloc (Obj.cells #[Value.string ⟨#[]⟩, Value.slice none 0 0, iv 0, iv 0, iv 0, iv 0, iv 0, iv 0, iv 0, iv 0, iv 0, iv 0, iv 0] 24)).setRow w1.heap.size (s.cs (some ad) n c0) = w2 at *
  have HS := Lib.hid SZ
  have MD := Lib.hid (World.ownsRow_made (e := 3) (size := 1) (base := w2.heap.size) w2 #[] 0 (Nat.le_refl _) (Nat.zero_le _) rfl)
  have p1 := (bkCell (bkAlloc P2.out (Obj.cells #[] 3)) 1).trans (show _ = some (Value.slice (some ad) n c0) from rfl)
  clear SZ SB
  go_upto_region 7 with (at_builtin; refine wpList_append_own _ rfl _ _ 22 rfl w2.heap.size 3 i0 (.int .i64 0) 1 8 Try.underlying22 hi hz0 hz1 hz2 rfl (by decide) _ _ _ rfl MD.out _ (t - f) _ (rw_ (fun i => xs (f + i)) (t - f)) rfl (by simp [rw_len]) (fun j u hj => absurd (List.getElem?_eq_some_iff.1 hj).1 (by rw [rw_len]; have := HFT.out; omega)) (by intro u hu; simp only [rw_, List.mem_map] at hu; obtain ⟨x, _, rfl⟩ := hu; rfl) (by unfold maxLen; have := HN.out; have := HTN.out; omega) (by have := HN.out; have := HTN.out; omega) (by simp) ?_; intro v' w3 hown hgrow _; have O3 := Lib.hid (ownEq hown (show 0 + (t - f) = t - f by omega) (show [] ++ rw_ (fun i => xs (f + i)) (t - f) = rw_ (fun i => xs (f + i)) (t - f) from rfl)); obtain ⟨A', c', g', rfl, _, _⟩ := ownDataV O3.out; have P3 := Lib.hid (grBlk (bkAlloc P2.out (Obj.cells #[] 3)) hgrow (by intro h; have := ownRowB MD.out _ h.symm; have := HP.out; have := HS.out; omega)); have H3 := Lib.hid (grBlk (bkAlloc H2.out (Obj.cells #[] 3)) hgrow (by intro h; have := ownRowB MD.out _ h.symm; have := HH.out; have := HS.out; omega)); have T3 := Lib.hid (grBlk (bkAlloc T2.out (Obj.cells #[] 3)) hgrow (by intro h; have := ownRowB MD.out _ h.symm; have := HS.out; omega)); have B3 := (B2.alloc B2.size (Obj.cells #[] 3)).grown hgrow (by have := B2.size; simp; omega) (fun k hk => by have := ownRowB MD.out k hk; have := HS.out; have := HP.out; omega); have t1 := (bkCell T3.out 1).trans (show _ = some (Value.slice (some ad) n c0) from rfl); have u1 := bkFrozen T3.out 1; clear hown hgrow)
  have P4 := Lib.hid (bkFar P3.out (p := ⟨w1.heap.size, 1, none⟩) (by have := HP.out; simp; omega) (.slice A' (t - f) c'))
  have H4 := Lib.hid (bkFar H3.out (p := ⟨w1.heap.size, 1, none⟩) (by have := HH.out; simp; omega) (.slice A' (t - f) c'))
  have T4 := Lib.hid (bkPut T3.out 1 (.slice A' (t - f) c') (S.set1 s (some ad) A' n c0 (t - f) c'))
  have O4 := Lib.hid (ownVC O3.out (p := ⟨w1.heap.size, 1, none⟩) (by have := HS.out; simp; omega) (.slice A' (t - f) c'))
  have B4 := B3.setCell (p := ⟨w1.heap.size, 1, none⟩) (Nat.le_of_lt HP.out) (.slice A' (t - f) c')
  clear p1 t1 u1 P3 H3 T3 O3 B3 P2 H2 T2 B2
  generalize w3.setCell ⟨w1.heap.size, 1, none⟩ (.slice A' (t - f) c') = w4 at *
  have p7 := (bkCell P4.out 7).trans (show _ = some (iv s.a7) from rfl)
  have p8 := (bkCell P4.out 8).trans (show _ = some (iv s.a8) from rfl)
  have p9 := (bkCell P4.out 9).trans (show _ = some (iv s.a9) from rfl)
  have t7 := (bkCell T4.out 7).trans (show _ = some (iv s.a7) from rfl)
  have t8 := (bkCell T4.out 8).trans (show _ = some (iv s.a8) from rfl)
  have t9 := (bkCell T4.out 9).trans (show _ = some (iv s.a9) from rfl)
  have u7 := bkFrozen T4.out 7
  have u8 := bkFrozen T4.out 8
  have u9 := bkFrozen T4.out 9
  go_upto_region 8 with (go_at_call 78; (with_reducible refine (C7.out _).mono ?_); rintro e w9 ⟨rfl, rfl⟩)
  have P5 := Lib.hid (bkFar (bkFar (bkFar P4.out (p := ⟨w1.heap.size, 7, none⟩) (by have := HP.out; simp; omega) (iv (cropK s.a7 s.a8 s.a9 f t).1)) (p := ⟨w1.heap.size, 8, none⟩) (by have := HP.out; simp; omega) (iv (cropK s.a7 s.a8 s.a9 f t).2.1)) (p := ⟨w1.heap.size, 9, none⟩) (by have := HP.out; simp; omega) (iv (cropK s.a7 s.a8 s.a9 f t).2.2))
  have H5 := Lib.hid (bkFar (bkFar (bkFar H4.out (p := ⟨w1.heap.size, 7, none⟩) (by have := HH.out; simp; omega) (iv (cropK s.a7 s.a8 s.a9 f t).1)) (p := ⟨w1.heap.size, 8, none⟩) (by have := HH.out; simp; omega) (iv (cropK s.a7 s.a8 s.a9 f t).2.1)) (p := ⟨w1.heap.size, 9, none⟩) (by have := HH.out; simp; omega) (iv (cropK s.a7 s.a8 s.a9 f t).2.2))
  have T5 := Lib.hid (bkPut (bkPut (bkPut T4.out 7 (iv (cropK s.a7 s.a8 s.a9 f t).1) (show _ = S.cs ⟨s.nm, s.a2, s.a3, s.a4, s.a5, s.a6, (cropK s.a7 s.a8 s.a9 f t).1, s.a8, s.a9, s.a10, s.a11, s.a12⟩ A' (t - f) c' from rfl)) 8 (iv (cropK s.a7 s.a8 s.a9 f t).2.1) (show _ = S.cs ⟨s.nm, s.a2, s.a3, s.a4, s.a5, s.a6, (cropK s.a7 s.a8 s.a9 f t).1, (cropK s.a7 s.a8 s.a9 f t).2.1, s.a9, s.a10, s.a11, s.a12⟩ A' (t - f) c' from rfl)) 9 (iv (cropK s.a7 s.a8 s.a9 f t).2.2) (show _ = S.cs ⟨s.nm, s.a2, s.a3, s.a4, s.a5, s.a6, (cropK s.a7 s.a8 s.a9 f t).1, (cropK s.a7 s.a8 s.a9 f t).2.1, (cropK s.a7 s.a8 s.a9 f t).2.2, s.a10, s.a11, s.a12⟩ A' (t - f) c' from rfl))
  have O5 := Lib.hid (ownVC (ownVC (ownVC O4.out (p := ⟨w1.heap.size, 7, none⟩) (by have := HS.out; simp; omega) (iv (cropK s.a7 s.a8 s.a9 f t).1)) (p := ⟨w1.heap.size, 8, none⟩) (by have := HS.out; simp; omega) (iv (cropK s.a7 s.a8 s.a9 f t).2.1)) (p := ⟨w1.heap.size, 9, none⟩) (by have := HS.out; simp; omega) (iv (cropK s.a7 s.a8 s.a9 f t).2.2))
  have B5 := (((B4.setCell (p := ⟨w1.heap.size, 7, none⟩) (Nat.le_of_lt HP.out) (iv (cropK s.a7 s.a8 s.a9 f t).1)).setCell (p := ⟨w1.heap.size, 8, none⟩) (Nat.le_of_lt HP.out) (iv (cropK s.a7 s.a8 s.a9 f t).2.1)).setCell (p := ⟨w1.heap.size, 9, none⟩) (Nat.le_of_lt HP.out) (iv (cropK s.a7 s.a8 s.a9 f t).2.2))
  clear p7 t7 u7 p8 t8 u8 p9 t9 u9 P4 H4 T4 O4 B4
  have p10 := (bkCell P5.out 10).trans (show _ = some (iv s.a10) from rfl)
  have p11 := (bkCell P5.out 11).trans (show _ = some (iv s.a11) from rfl)
  have p12 := (bkCell P5.out 12).trans (show _ = some (iv s.a12) from rfl)
  have t10 := (bkCell T5.out 10).trans (show _ = some (iv s.a10) from rfl)
  have t11 := (bkCell T5.out 11).trans (show _ = some (iv s.a11) from rfl)
  have t12 := (bkCell T5.out 12).trans (show _ = some (iv s.a12) from rfl)
  have u10 := bkFrozen T5.out 10
  have u11 := bkFrozen T5.out 11
  have u12 := bkFrozen T5.out 12
  go_upto_region 9 with (go_at_call 78; (with_reducible refine (C10.out _).mono ?_); rintro e w9 ⟨rfl, rfl⟩)
  have P6 := Lib.hid (bkFar (bkFar (bkFar P5.out (p := ⟨w1.heap.size, 10, none⟩) (by have := HP.out; simp; omega) (iv (cropK s.a10 s.a11 s.a12 f t).1)) (p := ⟨w1.heap.size, 11, none⟩) (by have := HP.out; simp; omega) (iv (cropK s.a10 s.a11 s.a12 f t).2.1)) (p := ⟨w1.heap.size, 12, none⟩) (by have := HP.out; simp; omega) (iv (cropK s.a10 s.a11 s.a12 f t).2.2))
  have H6 := Lib.hid (bkFar (bkFar (bkFar H5.out (p := ⟨w1.heap.size, 10, none⟩) (by have := HH.out; simp; omega) (iv (cropK s.a10 s.a11 s.a12 f t).1)) (p := ⟨w1.heap.size, 11, none⟩) (by have := HH.out; simp; omega) (iv (cropK s.a10 s.a11 s.a12 f t).2.1)) (p := ⟨w1.heap.size, 12, none⟩) (by have := HH.out; simp; omega) (iv (cropK s.a10 s.a11 s.a12 f t).2.2))
  have T6 := Lib.hid (bkPut (bkPut (bkPut T5.out 10 (iv (cropK s.a10 s.a11 s.a12 f t).1) (show _ = S.cs ⟨s.nm, s.a2, s.a3, s.a4, s.a5, s.a6, (cropK s.a7 s.a8 s.a9 f t).1, (cropK s.a7 s.a8 s.a9 f t).2.1, (cropK s.a7 s.a8 s.a9 f t).2.2, (cropK s.a10 s.a11 s.a12 f t).1, s.a11, s.a12⟩ A' (t - f) c' from rfl)) 11 (iv (cropK s.a10 s.a11 s.a12 f t).2.1) (show _ = S.cs ⟨s.nm, s.a2, s.a3, s.a4, s.a5, s.a6, (cropK s.a7 s.a8 s.a9 f t).1, (cropK s.a7 s.a8 s.a9 f t).2.1, (cropK s.a7 s.a8 s.a9 f t).2.2, (cropK s.a10 s.a11 s.a12 f t).1, (cropK s.a10 s.a11 s.a12 f t).2.1, s.a12⟩ A' (t - f) c' from rfl)) 12 (iv (cropK s.a10 s.a11 s.a12 f t).2.2) (show _ = S.cs ⟨s.nm, s.a2, s.a3, s.a4, s.a5, s.a6, (cropK s.a7 s.a8 s.a9 f t).1, (cropK s.a7 s.a8 s.a9 f t).2.1, (cropK s.a7 s.a8 s.a9 f t).2.2, (cropK s.a10 s.a11 s.a12 f t).1, (cropK s.a10 s.a11 s.a12 f t).2.1, (cropK s.a10 s.a11 s.a12 f t).2.2⟩ A' (t - f) c' from rfl))
  have O6 := Lib.hid (ownVC (ownVC (ownVC O5.out (p := ⟨w1.heap.size, 10, none⟩) (by have := HS.out; simp; omega) (iv (cropK s.a10 s.a11 s.a12 f t).1)) (p := ⟨w1.heap.size, 11, none⟩) (by have := HS.out; simp; omega) (iv (cropK s.a10 s.a11 s.a12 f t).2.1)) (p := ⟨w1.heap.size, 12, none⟩) (by have := HS.out; simp; omega) (iv (cropK s.a10 s.a11 s.a12 f t).2.2))
  have B6 := (((B5.setCell (p := ⟨w1.heap.size, 10, none⟩) (Nat.le_of_lt HP.out) (iv (cropK s.a10 s.a11 s.a12 f t).1)).setCell (p := ⟨w1.heap.size, 11, none⟩) (Nat.le_of_lt HP.out) (iv (cropK s.a10 s.a11 s.a12 f t).2.1)).setCell (p := ⟨w1.heap.size, 12, none⟩) (Nat.le_of_lt HP.out) (iv (cropK s.a10 s.a11 s.a12 f t).2.2))
  clear p10 t10 u10 p11 t11 u11 p12 t12 u12 P5 H5 T5 O5 B5
  have hT : cropS s f t = ⟨s.nm, s.a2, s.a3, s.a4, s.a5, s.a6, (cropK s.a7 s.a8 s.a9 f t).1, (cropK s.a7 s.a8 s.a9 f t).2.1, (cropK s.a7 s.a8 s.a9 f t).2.2, (cropK s.a10 s.a11 s.a12 f t).1, (cropK s.a10 s.a11 s.a12 f t).2.1, (cropK s.a10 s.a11 s.a12 f t).2.2⟩ := rfl
  go_wp2_with (first
    | (refine wpList_load_row rfl 24 (.tmp 8) rfl (w1.heap.size) rfl 24 _ (0, 0) _ T6.out Try.underlying24 rfl (S.i24 _ _ _ _) ?_)
    | (refine wpList_store_row rfl 24 (.tmp 6) (.tmp 71) rfl (w.heap.size + 1) (S.cs ⟨s.nm, s.a2, s.a3, s.a4, s.a5, s.a6, (cropK s.a7 s.a8 s.a9 f t).1, (cropK s.a7 s.a8 s.a9 f t).2.1, (cropK s.a7 s.a8 s.a9 f t).2.2, (cropK s.a10 s.a11 s.a12 f t).1, (cropK s.a10 s.a11 s.a12 f t).2.1, (cropK s.a10 s.a11 s.a12 f t).2.2⟩ A' (t - f) c') rfl rfl 24 _ H6.out (S.i24 _ _ _ _) (S.sz S.zero _ none _ 0 0 _ _) (S.one _ _ _ _) ?_))
  refine bodyPost_ret (res_ct rfl _ _ (w.heap.size + 1) 24 _ (0, 0) _ rfl (setRow_heap _ _ _ _ _ _ H6.out) Try.underlying24 rfl (S.i24 _ _ _ _)) rfl ⟨A', c', rfl, ownBase2 (ownVR O6.out (by have := HH.out; have := HS.out; omega) _) (by have := HP.out; have := HS.out; omega), below_setRow B6 (by omega) _⟩
set_option maxHeartbeats 16000000 in
set_option maxRecDepth 100000 in
theorem rcrop_none (s : S) (A : Option Addr) (n c0 b o : Nat) (xs : Nat → Int) (f t : Nat) (hv : vS s n xs = true) (hA0 : A = none) (hc00 : c0 = 0) (hft : f = t) (hcf : c0 = f) (htn : t ≤ n) (hn : n ≤ 9223372036854775807) (hc0 : n ≤ c0) (w : World) (hA : DataAt w A n b o xs) : Gives 36 #[.agg (s.cs A n c0), iv f, iv t] w (cropS s f t) 0 (fun i => xs (f + i)) 0 := by
  unfold Gives
  have H0 := Lib.hid (show ((w.alloc (Obj.cells (s.cs A n c0) 24)).alloc (Obj.cells #[Value.string ⟨#[]⟩, Value.slice none 0 0, iv 0, iv 0, iv 0, iv 0, iv 0, iv 0, iv 0, iv 0, iv 0, iv 0, iv 0] 24)).heap[w.heap.size + 1]? = some (.cells (S.zero.cs none 0 0) 24 (0, 0)) from heap_alloc2_new w (Obj.cells (s.cs A n c0) 24) (Obj.cells #[Value.string ⟨#[]⟩, Value.slice none 0 0, iv 0, iv 0, iv 0, iv 0, iv 0, iv 0, iv 0, iv 0, iv 0, iv 0, iv 0] 24))
  have B0 : Below w.heap.size w ((w.alloc (Obj.cells (s.cs A n c0) 24)).alloc (Obj.cells #[Value.string ⟨#[]⟩, Value.slice none 0 0, iv 0, iv 0, iv 0, iv 0, iv 0, iv 0, iv 0, iv 0, iv 0, iv 0, iv 0] 24)) := ((Below.refl _ _).alloc (Nat.le_refl _) _).alloc (by simp) _
  have P0 := Lib.hid (show ((w.alloc (Obj.cells (s.cs A n c0) 24)).alloc (Obj.cells #[Value.string ⟨#[]⟩, Value.slice none 0 0, iv 0, iv 0, iv 0, iv 0, iv 0, iv 0, iv 0, iv 0, iv 0, iv 0, iv 0] 24)).heap[w.heap.size]? = some (.cells (s.cs A n c0) 24 (0, 0)) from heap_alloc2_old w _ _)
  have D0 := Lib.hid (hA.later B0)
  have VC := Lib.hid (show ∀ (W : World), DataAt W A n b o xs → Calls Try.prog 25 #[.agg (s.cs A n c0)] W fun e w' => e = .returned (.bool true) ∧ Below W.heap.size W w' from fun W h => by have := rvalid_any s A n c0 b o xs hn hc0 W h; rwa [hv] at this)
  obtain ⟨_, _, n4, _, _, _, l7, l10⟩ := vS_yes hv
  unfold LpOk at l7 l10
  have HN := Lib.hid n4
  obtain ⟨i0, hi, hz0, hz1, hz2⟩ := info_parts info3
  have HD := Lib.hid hA
  have d1 : decide ((f : Int) < 0) = false := decide_eq_false (by omega)
  have d2 : decide ((t : Int) < f) = false := decide_eq_false (by omega)
  have d3 : decide ((n : Int) < t) = false := decide_eq_false (by omega)
  have n2 : decide (t < f) = false := decide_eq_false (by omega)
  have n3 : decide (n < t) = false := decide_eq_false (by omega)
  have i0_ : (0 : Int) ≤ (f : Int) := by omega
  have i1 : (0 : Int) ≤ (t : Int) := by omega
  have i2 : (f : Int) ≤ (t : Int) := by omega
  have i3 : (t : Int) ≤ (c0 : Int) := by omega
  have C7 := Lib.hid fun (W : World) => kept_any s.a7 s.a8 s.a9 f t (by omega) (by omega) (by omega) W
  have C10 := Lib.hid fun (W : World) => kept_any s.a10 s.a11 s.a12 f t (by omega) (by omega) (by omega) W
  subst hA0
  have HM0 := Lib.hid (show t - f = 0 by omega)
  have HC0 := Lib.hid (show c0 - f = 0 by omega)
  have hc1 : (c0 = f) = True := eq_true hcf
  have hc2 : (f = c0) = True := eq_true hcf.symm
  clear hft hcf hc00
  clear hA hv l7 l10
  go_enter Try.func36, Try.ntmps36
  go_upto_region 5 with (first
    | (refine wpList_load_row rfl 24 (.tmp 3) rfl (w.heap.size) rfl 24 _ (0, 0) _ P0.out Try.underlying24 rfl (S.i24 _ _ _ _) ?_)
    | (go_at_call 25; (with_reducible refine (VC.out _ D0.out).mono ?_); rintro e w1 ⟨rfl, hb1⟩; have P1 := Lib.hid (bkBelow P0.out hb1); have H1 := Lib.hid (bkBelow H0.out hb1); have p1 := (bkCell P1.out 1).trans (show _ = some (Value.slice none n c0) from rfl); have D1 := Lib.hid (D0.out.later hb1); have B1 := bdT B0 B0.size hb1))
  have HP := Lib.hid (bkLt P1.out)
  have HH := Lib.hid (bkLt H1.out)
  clear D1 p1
  go_upto_region 6 with (first
    | (refine wpList_load_row rfl 24 (.tmp 3) rfl (w.heap.size) rfl 24 _ (0, 0) _ P1.out Try.underlying24 rfl (S.i24 _ _ _ _) ?_)
    | (refine wpList_store_row rfl 24 (.tmp 8) (.tmp 30) rfl (w1.heap.size) (s.cs none n c0) rfl rfl 24 _ (heap_alloc_new w1 (Obj.cells #[Value.string ⟨#[]⟩, Value.slice none 0 0, iv 0, iv 0, iv 0, iv 0, iv 0, iv 0, iv 0, iv 0, iv 0, iv 0, iv 0] 24)) (S.i24 _ _ _ _) (S.sz S.zero s none _ 0 0 _ _) (S.one _ _ _ _) ?_; have K2 := below_setRow ((Below.refl w1.heap.size w1).alloc (Nat.le_refl _) (Obj.cells #[Value.string ⟨#[]⟩, Value.slice none 0 0, iv 0, iv 0, iv 0, iv 0, iv 0, iv 0, iv 0, iv 0, iv 0, iv 0, iv 0] 24)) (g := w1.heap.size) (Nat.le_refl _) (s.cs none n c0); have P2 := Lib.hid (bkBelow P1.out K2); have H2 := Lib.hid (bkBelow H1.out K2); have B2 := bdT B1 B1.size K2; have T2 := Lib.hid (setRow_heap _ _ _ (s.cs none n c0) _ _ (heap_alloc_new w1 (Obj.cells #[Value.string ⟨#[]⟩, Value.slice none 0 0, iv 0, iv 0, iv 0, iv 0, iv 0, iv 0, iv 0, iv 0, iv 0, iv 0, iv 0] 24))); clear P1 H1))
  have SZ : ((w1.alloc (Obj.cells #[Value.string ⟨#[]⟩, Value.slice none 0 0, iv 0, iv 0, iv 0, iv 0, iv 0, iv 0, iv 0, iv 0, iv 0, iv 0, iv 0] 24)).setRow w1.heap.size (s.cs none n c0)).heap.size = w1.heap.size + 1 := by simp
  have SB : Below w1.heap.size w1 ((w1.alloc (Obj.cells #[Value.string ⟨#[]⟩, Value.slice none 0 0, iv 0, iv 0, iv 0, iv 0, iv 0, iv 0, iv 0, iv 0, iv 0, iv 0, iv 0] 24)).setRow w1.heap.size (s.cs none n c0)) := below_setRow ((Below.refl _ _).alloc (Nat.le_refl _) _) (Nat.le_refl _) _
  generalize (w1.alloc (Obj.cells #[Value.string ⟨#[]⟩, Value.slice none 0 0, iv 0, iv 0, iv 0, iv 0, iv 0, iv 0, iv 0, iv 0, iv 0, iv 0, iv 0] 24)).setRow w1.heap.size (s.cs none n c0) = w2 at *
  have HS := Lib.hid SZ
  have MD := Lib.hid (World.ownsRow_made (e := 3) (size := 1) (base := w2.heap.size) w2 #[] 0 (Nat.le_refl _) (Nat.zero_le _) rfl)
  have p1 := (bkCell (bkAlloc P2.out (Obj.cells #[] 3)) 1).trans (show _ = some (Value.slice none n c0) from rfl)
  clear SZ SB
  go_upto_region 7 with (at_builtin; refine wpList_append_own_none rfl _ _ 22 rfl w2.heap.size 3 i0 1 Try.underlying22 hi _ _ _ rfl MD.out (by first | rfl | (show Value.slice none (t - f) (c0 - f) = Value.slice none 0 0; rw [HM0.out, HC0.out])) ?_; have W3 := ((Below.refl w2.heap.size w2).alloc (Nat.le_refl _) (Obj.cells #[] 3)); have P3 := Lib.hid (bkBelow P2.out W3); have H3 := Lib.hid (bkBelow H2.out W3); have T3 := Lib.hid (bkBelow T2.out W3); have B3 := bdT B2 B2.size W3; have O3 := Lib.hid (ownN MD.out (show [] = rw_ (fun i => xs (f + i)) 0 from rfl)); have t1 := (bkCell T3.out 1).trans (show _ = some (Value.slice none n c0) from rfl); have u1 := bkFrozen T3.out 1; clear W3 MD; generalize w2.alloc (Obj.cells #[] 3) = w3 at *)
  have P4 := Lib.hid (bkFar P3.out (p := ⟨w1.heap.size, 1, none⟩) (by have := HP.out; simp; omega) (.slice (some ⟨w2.heap.size, 0, none⟩) 0 0))
  have H4 := Lib.hid (bkFar H3.out (p := ⟨w1.heap.size, 1, none⟩) (by have := HH.out; simp; omega) (.slice (some ⟨w2.heap.size, 0, none⟩) 0 0))
  have T4 := Lib.hid (bkPut T3.out 1 (.slice (some ⟨w2.heap.size, 0, none⟩) 0 0) (S.set1 s none (some ⟨w2.heap.size, 0, none⟩) n c0 0 0))
  have O4 := Lib.hid (ownVC O3.out (p := ⟨w1.heap.size, 1, none⟩) (by have := HS.out; simp; omega) (.slice (some ⟨w2.heap.size, 0, none⟩) 0 0))
  have B4 := B3.setCell (p := ⟨w1.heap.size, 1, none⟩) (Nat.le_of_lt HP.out) (.slice (some ⟨w2.heap.size, 0, none⟩) 0 0)
  clear p1 t1 u1 P3 H3 T3 O3 B3 P2 H2 T2 B2
  generalize w3.setCell ⟨w1.heap.size, 1, none⟩ (.slice (some ⟨w2.heap.size, 0, none⟩) 0 0) = w4 at *
  have p7 := (bkCell P4.out 7).trans (show _ = some (iv s.a7) from rfl)
  have p8 := (bkCell P4.out 8).trans (show _ = some (iv s.a8) from rfl)
  have p9 := (bkCell P4.out 9).trans (show _ = some (iv s.a9) from rfl)
  have t7 := (bkCell T4.out 7).trans (show _ = some (iv s.a7) from rfl)
  have t8 := (bkCell T4.out 8).trans (show _ = some (iv s.a8) from rfl)
  have t9 := (bkCell T4.out 9).trans (show _ = some (iv s.a9) from rfl)
  have u7 := bkFrozen T4.out 7
  have u8 := bkFrozen T4.out 8
  have u9 := bkFrozen T4.out 9
  go_upto_region 8 with (go_at_call 78; (with_reducible refine (C7.out _).mono ?_); rintro e w9 ⟨rfl, rfl⟩)
  have P5 := Lib.hid (bkFar (bkFar (bkFar P4.out (p := ⟨w1.heap.size, 7, none⟩) (by have := HP.out; simp; omega) (iv (cropK s.a7 s.a8 s.a9 f t).1)) (p := ⟨w1.heap.size, 8, none⟩) (by have := HP.out; simp; omega) (iv (cropK s.a7 s.a8 s.a9 f t).2.1)) (p := ⟨w1.heap.size, 9, none⟩) (by have := HP.out; simp; omega) (iv (cropK s.a7 s.a8 s.a9 f t).2.2))
  have H5 := Lib.hid (bkFar (bkFar (bkFar H4.out (p := ⟨w1.heap.size, 7, none⟩) (by have := HH.out; simp; omega) (iv (cropK s.a7 s.a8 s.a9 f t).1)) (p := ⟨w1.heap.size, 8, none⟩) (by have := HH.out; simp; omega) (iv (cropK s.a7 s.a8 s.a9 f t).2.1)) (p := ⟨w1.heap.size, 9, none⟩) (by have := HH.out; simp; omega) (iv (cropK s.a7 s.a8 s.a9 f t).2.2))
  have T5 := Lib.hid (bkPut (bkPut (bkPut T4.out 7 (iv (cropK s.a7 s.a8 s.a9 f t).1) (show _ = S.cs ⟨s.nm, s.a2, s.a3, s.a4, s.a5, s.a6, (cropK s.a7 s.a8 s.a9 f t).1, s.a8, s.a9, s.a10, s.a11, s.a12⟩ (some ⟨w2.heap.size, 0, none⟩) 0 0 from rfl)) 8 (iv (cropK s.a7 s.a8 s.a9 f t).2.1) (show _ = S.cs ⟨s.nm, s.a2, s.a3, s.a4, s.a5, s.a6, (cropK s.a7 s.a8 s.a9 f t).1, (cropK s.a7 s.a8 s.a9 f t).2.1, s.a9, s.a10, s.a11, s.a12⟩ (some ⟨w2.heap.size, 0, none⟩) 0 0 from rfl)) 9 (iv (cropK s.a7 s.a8 s.a9 f t).2.2) (show _ = S.cs ⟨s.nm, s.a2, s.a3, s.a4, s.a5, s.a6, (cropK s.a7 s.a8 s.a9 f t).1, (cropK s.a7 s.a8 s.a9 f t).2.1, (cropK s.a7 s.a8 s.a9 f t).2.2, s.a10, s.a11, s.a12⟩ (some ⟨w2.heap.size, 0, none⟩) 0 0 from rfl))
  have O5 := Lib.hid (ownVC (ownVC (ownVC O4.out (p := ⟨w1.heap.size, 7, none⟩) (by have := HS.out; simp; omega) (iv (cropK s.a7 s.a8 s.a9 f t).1)) (p := ⟨w1.heap.size, 8, none⟩) (by have := HS.out; simp; omega) (iv (cropK s.a7 s.a8 s.a9 f t).2.1)) (p := ⟨w1.heap.size, 9, none⟩) (by have := HS.out; simp; omega) (iv (cropK s.a7 s.a8 s.a9 f t).2.2))
  have B5 := (((B4.setCell (p := ⟨w1.heap.size, 7, none⟩) (Nat.le_of_lt HP.out) (iv (cropK s.a7 s.a8 s.a9 f t).1)).setCell (p := ⟨w1.heap.size, 8, none⟩) (Nat.le_of_lt HP.out) (iv (cropK s.a7 s.a8 s.a9 f t).2.1)).setCell (p := ⟨w1.heap.size, 9, none⟩) (Nat.le_of_lt HP.out) (iv (cropK s.a7 s.a8 s.a9 f t).2.2))
  clear p7 t7 u7 p8 t8 u8 p9 t9 u9 P4 H4 T4 O4 B4
  have p10 := (bkCell P5.out 10).trans (show _ = some (iv s.a10) from rfl)
  have p11 := (bkCell P5.out 11).trans (show _ = some (iv s.a11) from rfl)
  have p12 := (bkCell P5.out 12).trans (show _ = some (iv s.a12) from rfl)
  have t10 := (bkCell T5.out 10).trans (show _ = some (iv s.a10) from rfl)
  have t11 := (bkCell T5.out 11).trans (show _ = some (iv s.a11) from rfl)
  have t12 := (bkCell T5.out 12).trans (show _ = some (iv s.a12) from rfl)
  have u10 := bkFrozen T5.out 10
  have u11 := bkFrozen T5.out 11
  have u12 := bkFrozen T5.out 12
  go_upto_region 9 with (go_at_call 78; (with_reducible refine (C10.out _).mono ?_); rintro e w9 ⟨rfl, rfl⟩)
  have P6 := Lib.hid (bkFar (bkFar (bkFar P5.out (p := ⟨w1.heap.size, 10, none⟩) (by have := HP.out; simp; omega) (iv (cropK s.a10 s.a11 s.a12 f t).1)) (p := ⟨w1.heap.size, 11, none⟩) (by have := HP.out; simp; omega) (iv (cropK s.a10 s.a11 s.a12 f t).2.1)) (p := ⟨w1.heap.size, 12, none⟩) (by have := HP.out; simp; omega) (iv (cropK s.a10 s.a11 s.a12 f t).2.2))
  have H6 := Lib.hid (bkFar (bkFar (bkFar H5.out (p := ⟨w1.heap.size, 10, none⟩) (by have := HH.out; simp; omega) (iv (cropK s.a10 s.a11 s.a12 f t).1)) (p := ⟨w1.heap.size, 11, none⟩) (by have := HH.out; simp; omega) (iv (cropK s.a10 s.a11 s.a12 f t).2.1)) (p := ⟨w1.heap.size, 12, none⟩) (by have := HH.out; simp; omega) (iv (cropK s.a10 s.a11 s.a12 f t).2.2))
  have T6 := Lib.hid (bkPut (bkPut (bkPut T5.out 10 (iv (cropK s.a10 s.a11 s.a12 f t).1) (show _ = S.cs ⟨s.nm, s.a2, s.a3, s.a4, s.a5, s.a6, (cropK s.a7 s.a8 s.a9 f t).1, (cropK s.a7 s.a8 s.a9 f t).2.1, (cropK s.a7 s.a8 s.a9 f t).2.2, (cropK s.a10 s.a11 s.a12 f t).1, s.a11, s.a12⟩ (some ⟨w2.heap.size, 0, none⟩) 0 0 from rfl)) 11 (iv (cropK s.a10 s.a11 s.a12 f t).2.1) (show _ = S.cs ⟨s.nm, s.a2, s.a3, s.a4, s.a5, s.a6, (cropK s.a7 s.a8 s.a9 f t).1, (cropK s.a7 s.a8 s.a9 f t).2.1, (cropK s.a7 s.a8 s.a9 f t).2.2, (cropK s.a10 s.a11 s.a12 f t).1, (cropK s.a10 s.a11 s.a12 f t).2.1, s.a12⟩ (some ⟨w2.heap.size, 0, none⟩) 0 0 from rfl)) 12 (iv (cropK s.a10 s.a11 s.a12 f t).2.2) (show _ = S.cs ⟨s.nm, s.a2, s.a3, s.a4, s.a5, s.a6, (cropK s.a7 s.a8 s.a9 f t).1, (cropK s.a7 s.a8 s.a9 f t).2.1, (cropK s.a7 s.a8 s.a9 f t).2.2, (cropK s.a10 s.a11 s.a12 f t).1, (cropK s.a10 s.a11 s.a12 f t).2.1, (cropK s.a10 s.a11 s.a12 f t).2.2⟩ (some ⟨w2.heap.size, 0, none⟩) 0 0 from rfl))
  have O6 := Lib.hid (ownVC (ownVC (ownVC O5.out (p := ⟨w1.heap.size, 10, none⟩) (by have := HS.out; simp; omega) (iv (cropK s.a10 s.a11 s.a12 f t).1)) (p := ⟨w1.heap.size, 11, none⟩) (by have := HS.out; simp; omega) (iv (cropK s.a10 s.a11 s.a12 f t).2.1)) (p := ⟨w1.heap.size, 12, none⟩) (by have := HS.out; simp; omega) (iv (cropK s.a10 s.a11 s.a12 f t).2.2))
  have B6 := (((B5.setCell (p := ⟨w1.heap.size, 10, none⟩) (Nat.le_of_lt HP.out) (iv (cropK s.a10 s.a11 s.a12 f t).1)).setCell (p := ⟨w1.heap.size, 11, none⟩) (Nat.le_of_lt HP.out) (iv (cropK s.a10 s.a11 s.a12 f t).2.1)).setCell (p := ⟨w1.heap.size, 12, none⟩) (Nat.le_of_lt HP.out) (iv (cropK s.a10 s.a11 s.a12 f t).2.2))
  clear p10 t10 u10 p11 t11 u11 p12 t12 u12 P5 H5 T5 O5 B5
  have hT : cropS s f t = ⟨s.nm, s.a2, s.a3, s.a4, s.a5, s.a6, (cropK s.a7 s.a8 s.a9 f t).1, (cropK s.a7 s.a8 s.a9 f t).2.1, (cropK s.a7 s.a8 s.a9 f t).2.2, (cropK s.a10 s.a11 s.a12 f t).1, (cropK s.a10 s.a11 s.a12 f t).2.1, (cropK s.a10 s.a11 s.a12 f t).2.2⟩ := rfl
  go_wp2_with (first
    | (refine wpList_load_row rfl 24 (.tmp 8) rfl (w1.heap.size) rfl 24 _ (0, 0) _ T6.out Try.underlying24 rfl (S.i24 _ _ _ _) ?_)
    | (refine wpList_store_row rfl 24 (.tmp 6) (.tmp 71) rfl (w.heap.size + 1) (S.cs ⟨s.nm, s.a2, s.a3, s.a4, s.a5, s.a6, (cropK s.a7 s.a8 s.a9 f t).1, (cropK s.a7 s.a8 s.a9 f t).2.1, (cropK s.a7 s.a8 s.a9 f t).2.2, (cropK s.a10 s.a11 s.a12 f t).1, (cropK s.a10 s.a11 s.a12 f t).2.1, (cropK s.a10 s.a11 s.a12 f t).2.2⟩ (some ⟨w2.heap.size, 0, none⟩) 0 0) rfl rfl 24 _ H6.out (S.i24 _ _ _ _) (S.sz S.zero _ none _ 0 0 _ _) (S.one _ _ _ _) ?_))
  refine bodyPost_ret (res_ct rfl _ _ (w.heap.size + 1) 24 _ (0, 0) _ rfl (setRow_heap _ _ _ _ _ _ H6.out) Try.underlying24 rfl (S.i24 _ _ _ _)) rfl ⟨(some ⟨w2.heap.size, 0, none⟩), 0, rfl, ownBase2 (ownVR O6.out (by have := HH.out; have := HS.out; omega) _) (by have := HP.out; have := HS.out; omega), below_setRow B6 (by omega) _⟩
theorem rcrop_ok (s : S) (A : Option Addr) (n c0 b o : Nat) (xs : Nat → Int) (f t : Nat) (hv : vS s n xs = true) (hft : f ≤ t) (htn : t ≤ n) (hN : A = none → c0 = 0) (hn : n ≤ 9223372036854775807) (hc0 : n ≤ c0) (w : World) (hA : DataAt w A n b o xs) : Gives 36 #[.agg (s.cs A n c0), iv f, iv t] w (cropS s f t) (t - f) (fun i => xs (f + i)) 0 := by
  cases hA0 : A with
  | none =>
    rw [← hA0]
    have h0 := hN hA0
    have := rcrop_none s A n c0 b o xs f t hv hA0 h0 (by omega) (by omega) htn hn hc0 w hA
    rwa [show (0 : Nat) = t - f by omega] at this
  | some ad =>
    rw [← hA0]
    rcases Nat.lt_or_ge f t with h | h
    · exact rcrop_some s A n c0 b o xs f t hv h htn hn hc0 w hA
    · rcases Nat.lt_or_ge f c0 with h2 | h2
      · exact rcrop_some0 s A n c0 b o xs f t hv ad hA0 (by omega) h2 htn hn hc0 w hA
      · exact rcrop_some1 s A n c0 b o xs f t hv ad hA0 (by omega) (by omega) htn hn hc0 w hA
end Go.Proofs.Ytnmoiolddfboiaa.SX

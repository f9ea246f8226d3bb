/- Back and forth: a sample turned twice, cropped to all of it, made of 16 bits and of 8 again. -/
import Derived.Test.YtnmoiolddfboiaaSxX
import Derived.Test.YtnmoiolddfboiaaSxY
namespace Go.Proofs.Ytnmoiolddfboiaa.SX
open Go.RowKit Go.Proofs.YtnmoiolddfboiaaW.PrintLast Go.Proofs.Ytnmoiolddfboiaa.TX Go.Proofs.Ytnmoiolddfboiaa.Cu
set_option linter.unusedVariables false
set_option linter.unusedSimpArgs false
theorem gives_congr {F : FuncId} {args : Array Value} {w : World} {t t' : S} {m m' : Nat} {ys zs : Nat → Int} {er : Int} (h : Gives F args w t m ys er) (e : t = t') (em : m = m') (ez : ∀ i, i < m → ys i = zs i) : Gives F args w t' m' zs er := by
  subst e em
  unfold Gives at h ⊢
  refine h.mono ?_
  rintro e w' ⟨A', c', h1, h2, h3⟩
  exact ⟨A', c', h1, ownN h2 (rw_congr ez), h3⟩
theorem gives_data {F : FuncId} {args : Array Value} {w : World} {t : S} {m : Nat} {ys : Nat → Int} {er : Int} (h : Gives F args w t m ys er) :
    Calls Try.prog F args w fun e w' => ∃ A' c' b' o', e = .returned (.tuple #[.agg (t.cs A' m c'), iv er]) ∧ m ≤ c' ∧ DataAt w' A' m b' o' ys ∧ Below w.heap.size w w' := by
  unfold Gives at h
  refine h.mono ?_
  rintro e w' ⟨A', c', h1, h2, h3⟩
  obtain ⟨A2, c2, g, e2, hd, _⟩ := ownDataV h2
  simp only [Value.slice.injEq, true_and] at e2
  obtain ⟨rfl, rfl⟩ := e2
  refine ⟨A', c', g, 0, h1, ?_, hd, h3⟩
  rcases h2.2 with ⟨hq, hz⟩ | ⟨g', cap', cur, h', _, _, hle, _⟩
  · omega
  · simp only [Value.slice.injEq] at h'
    omega
set_option maxHeartbeats 16000000 in
set_option maxRecDepth 100000 in
theorem backs_bad (s : S) (A : Option Addr) (n c0 b o : Nat) (xs : Nat → Int) (hv : vS s n xs = false) (hn : n ≤ 9223372036854775807) (hc0 : n ≤ c0) (w : World) (hA : DataAt w A n b o xs) : Calls Try.prog 8 #[.agg (s.cs A n c0)] w fun e w' => e = .returned (.bool true) ∧ Below w.heap.size w w' := by
  have B0 : Below w.heap.size w (w.alloc (Obj.cells (s.cs A n c0) 24)) := (Below.refl _ _).alloc (Nat.le_refl _) _
  have P0 := Lib.hid (show (w.alloc (Obj.cells (s.cs A n c0) 24)).heap[w.heap.size]? = some (.cells (s.cs A n c0) 24 (0, 0)) from heap_alloc_new w _)
  have D0 := Lib.hid (hA.later B0)
  have VC := Lib.hid (show ∀ (W : World), DataAt W A n b o xs → Calls Try.prog 15 #[.agg (s.cs A n c0)] W fun e w' => e = .returned (.bool false) ∧ Below W.heap.size W w' from fun W h => by have := valid_any s A n c0 b o xs hn hc0 W h; rwa [hv] at this)
  clear hA hv
  go_enter Try.func8, Try.ntmps8
  go_wp2_with (first
    | (refine wpList_load_row rfl 24 (.tmp 1) rfl (w.heap.size) rfl 24 _ (0, 0) _ P0.out Try.underlying24 rfl (S.i24 _ _ _ _) ?_)
    | (go_at_call 15; (with_reducible refine (VC.out _ D0.out).mono ?_); rintro e w1 ⟨rfl, hb1⟩; have P1 := Lib.hid (bkBelow P0.out hb1); have D1 := Lib.hid (D0.out.later hb1); have B1 := bdT B0 B0.size hb1)
    | (go_at_call 16; (with_reducible refine (awake_any _).mono ?_); rintro e wz ⟨rfl, hbz⟩))
  go_ret
  exact ⟨rfl, bdT B1 B1.size hbz⟩
set_option maxHeartbeats 16000000 in
set_option maxRecDepth 100000 in
theorem backs_8 (s : S) (A : Option Addr) (n c0 b o : Nat) (xs : Nat → Int) (hv : vS s n xs = true) (hb8 : s.a2 = 8) (hn : n ≤ 9223372036854775807) (hc0 : n ≤ c0) (w : World) (hA : DataAt w A n b o xs) : Calls Try.prog 8 #[.agg (s.cs A n c0)] w fun e w' => e = .returned (.bool true) ∧ Below w.heap.size w w' := by
  have HB := Lib.hid hb8
  have hn2 := (vS_yes hv).2.2.1
  have HN := Lib.hid (show n ≤ 20000000000000 by omega)
  have RV := Lib.hid fun (W : World) (h : DataAt W A n b o xs) => gives_data (srev_ok s A n c0 b o xs hv hn hc0 W h)
  have RV2 := Lib.hid fun (A' : Option Addr) (c' b' o' : Nat) (W : World) (hk : n ≤ c') (h : DataAt W A' n b' o' (revF n xs)) => gives_data (gives_congr (srev_ok (revS s n) A' n c' b' o' (revF n xs) (rev_valid hv) hn hk W h) (rev_twice s n) rfl (revF_twice n xs))
  have CR := Lib.hid fun (W : World) (h : DataAt W A n b o xs) => gives_data (show Gives 32 #[.agg (s.cs A n c0), iv 0, iv n] W s n xs 0 from gives_congr (scrop_ok s A n c0 b o xs 0 n hv (Nat.zero_le _) (Nat.le_refl _) hn hc0 W h) (crop_all hv) (Nat.sub_zero n) (fun i _ => by rw [Nat.zero_add]))
  have CV := Lib.hid fun (W : World) (h : DataAt W A n b o xs) => gives_data (sconv_ok s A n c0 b o xs 16 (.inr rfl) hv hn hc0 W h)
  have CW := Lib.hid fun (A' : Option Addr) (c' b' o' : Nat) (W : World) (hk : n ≤ c') (h : DataAt W A' n b' o' (cvF s.a2 16 xs)) => gives_data (sconv_ok (cvS s 16) A' n c' b' o' (cvF s.a2 16 xs) 8 (.inl rfl) (cv_valid hv (.inr rfl)) hn hk W h)
  have AL := Lib.hid fun (A' D : Option Addr) (c' d b' o' b2 o2 : Nat) (W : World) (h : DataAt W A' n b' o' xs) (k : DataAt W D n b2 o2 xs) => alike_yes s A' n c' D d b' o' b2 o2 xs (by omega) W h k
  have B0 : Below w.heap.size w (w.alloc (Obj.cells (s.cs A n c0) 24)) := (Below.refl _ _).alloc (Nat.le_refl _) _
  have P0 := Lib.hid (show (w.alloc (Obj.cells (s.cs A n c0) 24)).heap[w.heap.size]? = some (.cells (s.cs A n c0) 24 (0, 0)) from heap_alloc_new w _)
  have D0 := Lib.hid (hA.later B0)
  have VC := Lib.hid (show ∀ (W : World), DataAt W A n b o xs → Calls Try.prog 15 #[.agg (s.cs A n c0)] W fun e w' => e = .returned (.bool true) ∧ Below W.heap.size W w' from fun W h => by have := valid_any s A n c0 b o xs hn hc0 W h; rwa [hv] at this)
  clear hA hv hb8 hn2
  go_enter Try.func8, Try.ntmps8
  go_upto_region 3 with (first
    | (refine wpList_load_row rfl 24 (.tmp 1) rfl (w.heap.size) rfl 24 _ (0, 0) _ P0.out Try.underlying24 rfl (S.i24 _ _ _ _) ?_)
    | (go_at_call 15; (with_reducible refine (VC.out _ D0.out).mono ?_); rintro e w1 ⟨rfl, hb1⟩; have P1 := Lib.hid (bkBelow P0.out hb1); have D1 := Lib.hid (D0.out.later hb1); have B1 := bdT B0 B0.size hb1))
  go_upto_region 4 with (first
    | (refine wpList_load_row rfl 24 (.tmp 1) rfl (w.heap.size) rfl 24 _ (0, 0) _ P1.out Try.underlying24 rfl (S.i24 _ _ _ _) ?_)
    | (go_at_call 31; (with_reducible refine (RV.out _ D1.out).mono ?_); rintro e w2 ⟨A1, c1, b1, o1, rfl, hk1, X1, hb2⟩; have P2 := Lib.hid (bkBelow P1.out hb2); have D2 := Lib.hid (D1.out.later hb2); have B2 := bdT B1 B1.size hb2; have E2 := Lib.hid (X1); clear P1 D1)
    | (refine wpList_store_row rfl 24 (.tmp 3) (.tmp 18) rfl (w2.heap.size) ((revS s n).cs A1 n c1) rfl rfl 24 _ (heap_alloc_new w2 (Obj.cells #[Value.string ⟨#[]⟩, Value.slice none 0 0, iv 0, iv 0, iv 0, iv 0, iv 0, iv 0, iv 0, iv 0, iv 0, iv 0, iv 0] 24)) (S.i24 _ _ _ _) (S.sz S.zero _ none _ 0 0 _ _) (S.one _ _ _ _) ?_; have K3 := below_setRow ((Below.refl w2.heap.size w2).alloc (Nat.le_refl _) (Obj.cells #[Value.string ⟨#[]⟩, Value.slice none 0 0, iv 0, iv 0, iv 0, iv 0, iv 0, iv 0, iv 0, iv 0, iv 0, iv 0, iv 0] 24)) (g := w2.heap.size) (Nat.le_refl _) ((revS s n).cs A1 n c1); have P3 := Lib.hid (bkBelow P2.out K3); have D3 := Lib.hid (D2.out.later K3); have E3 := Lib.hid (E2.out.later K3); have B3 := bdT B2 B2.size K3; have T3 := Lib.hid (setRow_heap _ _ _ ((revS s n).cs A1 n c1) _ _ (heap_alloc_new w2 (Obj.cells #[Value.string ⟨#[]⟩, Value.slice none 0 0, iv 0, iv 0, iv 0, iv 0, iv 0, iv 0, iv 0, iv 0, iv 0, iv 0, iv 0] 24))); clear P2 D2 E2))
  go_upto_region 5 with (first
    | (refine wpList_load_row rfl 24 (.tmp 3) rfl (w2.heap.size) rfl 24 _ (0, 0) _ T3.out Try.underlying24 rfl (S.i24 _ _ _ _) ?_)
    | (go_at_call 31; (with_reducible refine (RV2.out _ _ _ _ _ hk1 E3.out).mono ?_); rintro e w4 ⟨A2, c2, b2, o2, rfl, hk2, X2, hb4⟩; have P4 := Lib.hid (bkBelow P3.out hb4); have D4 := Lib.hid (D3.out.later hb4); have E4 := Lib.hid (E3.out.later hb4); have T4 := Lib.hid (bkBelow T3.out hb4); have B4 := bdT B3 B3.size hb4; have F4 := Lib.hid (X2); clear P3 D3 E3 T3)
    | (refine wpList_store_row rfl 24 (.tmp 5) (.tmp 23) rfl (w4.heap.size) (s.cs A2 n c2) rfl rfl 24 _ (heap_alloc_new w4 (Obj.cells #[Value.string ⟨#[]⟩, Value.slice none 0 0, iv 0, iv 0, iv 0, iv 0, iv 0, iv 0, iv 0, iv 0, iv 0, iv 0, iv 0] 24)) (S.i24 _ _ _ _) (S.sz S.zero _ none _ 0 0 _ _) (S.one _ _ _ _) ?_; have K5 := below_setRow ((Below.refl w4.heap.size w4).alloc (Nat.le_refl _) (Obj.cells #[Value.string ⟨#[]⟩, Value.slice none 0 0, iv 0, iv 0, iv 0, iv 0, iv 0, iv 0, iv 0, iv 0, iv 0, iv 0, iv 0] 24)) (g := w4.heap.size) (Nat.le_refl _) (s.cs A2 n c2); have P5 := Lib.hid (bkBelow P4.out K5); have D5 := Lib.hid (D4.out.later K5); have E5 := Lib.hid (E4.out.later K5); have T5 := Lib.hid (bkBelow T4.out K5); have F5 := Lib.hid (F4.out.later K5); have B5 := bdT B4 B4.size K5; have U5 := Lib.hid (setRow_heap _ _ _ (s.cs A2 n c2) _ _ (heap_alloc_new w4 (Obj.cells #[Value.string ⟨#[]⟩, Value.slice none 0 0, iv 0, iv 0, iv 0, iv 0, iv 0, iv 0, iv 0, iv 0, iv 0, iv 0, iv 0] 24))); clear P4 D4 E4 T4 F4))
  have z1 := (bkCell P5.out 1).trans (show _ = some (Value.slice A n c0) from rfl)
  go_upto_region 6 with (first
    | (refine wpList_load_row rfl 24 (.tmp 1) rfl (w.heap.size) rfl 24 _ (0, 0) _ P5.out Try.underlying24 rfl (S.i24 _ _ _ _) ?_)
    | (go_at_call 32; (with_reducible refine (CR.out _ D5.out).mono ?_); rintro e w6 ⟨A3, c3, b3, o3, rfl, hk3, X3, hb6⟩; have P6 := Lib.hid (bkBelow P5.out hb6); have D6 := Lib.hid (D5.out.later hb6); have E6 := Lib.hid (E5.out.later hb6); have T6 := Lib.hid (bkBelow T5.out hb6); have F6 := Lib.hid (F5.out.later hb6); have U6 := Lib.hid (bkBelow U5.out hb6); have B6 := bdT B5 B5.size hb6; have G6 := Lib.hid (X3); clear P5 D5 E5 T5 F5 U5)
    | (refine wpList_store_row rfl 24 (.tmp 7) (.tmp 31) rfl (w6.heap.size) (s.cs A3 n c3) rfl rfl 24 _ (heap_alloc_new w6 (Obj.cells #[Value.string ⟨#[]⟩, Value.slice none 0 0, iv 0, iv 0, iv 0, iv 0, iv 0, iv 0, iv 0, iv 0, iv 0, iv 0, iv 0] 24)) (S.i24 _ _ _ _) (S.sz S.zero _ none _ 0 0 _ _) (S.one _ _ _ _) ?_; have K7 := below_setRow ((Below.refl w6.heap.size w6).alloc (Nat.le_refl _) (Obj.cells #[Value.string ⟨#[]⟩, Value.slice none 0 0, iv 0, iv 0, iv 0, iv 0, iv 0, iv 0, iv 0, iv 0, iv 0, iv 0, iv 0] 24)) (g := w6.heap.size) (Nat.le_refl _) (s.cs A3 n c3); have P7 := Lib.hid (bkBelow P6.out K7); have D7 := Lib.hid (D6.out.later K7); have E7 := Lib.hid (E6.out.later K7); have T7 := Lib.hid (bkBelow T6.out K7); have F7 := Lib.hid (F6.out.later K7); have U7 := Lib.hid (bkBelow U6.out K7); have G7 := Lib.hid (G6.out.later K7); have B7 := bdT B6 B6.size K7; have V7 := Lib.hid (setRow_heap _ _ _ (s.cs A3 n c3) _ _ (heap_alloc_new w6 (Obj.cells #[Value.string ⟨#[]⟩, Value.slice none 0 0, iv 0, iv 0, iv 0, iv 0, iv 0, iv 0, iv 0, iv 0, iv 0, iv 0, iv 0] 24))); clear P6 D6 E6 T6 F6 U6 G6))
  clear z1
  go_upto_region 8 with (first
    | (refine gdOn (by rfl) ?_; refine wpList_load_row rfl 24 (.tmp 5) rfl (w4.heap.size) rfl 24 _ (0, 0) _ U7.out Try.underlying24 rfl (S.i24 _ _ _ _) ?_)
    | (refine gdOn (by rfl) ?_; refine wpList_load_row rfl 24 (.tmp 1) rfl (w.heap.size) rfl 24 _ (0, 0) _ P7.out Try.underlying24 rfl (S.i24 _ _ _ _) ?_)
    | (go_at_call 33; (with_reducible refine (AL.out _ _ _ _ _ _ _ _ _ F7.out D7.out).mono ?_); rintro e w8 ⟨rfl, hb8⟩; have P8 := Lib.hid (bkBelow P7.out hb8); have D8 := Lib.hid (D7.out.later hb8); have E8 := Lib.hid (E7.out.later hb8); have T8 := Lib.hid (bkBelow T7.out hb8); have F8 := Lib.hid (F7.out.later hb8); have U8 := Lib.hid (bkBelow U7.out hb8); have G8 := Lib.hid (G7.out.later hb8); have V8 := Lib.hid (bkBelow V7.out hb8); have B8 := bdT B7 B7.size hb8; clear P7 D7 E7 T7 F7 U7 G7 V7)
    | (refine gdOn (by rfl) ?_; refine wpList_load_row rfl 24 (.tmp 7) rfl (w6.heap.size) rfl 24 _ (0, 0) _ V8.out Try.underlying24 rfl (S.i24 _ _ _ _) ?_)
    | (refine gdOn (by rfl) ?_; refine wpList_load_row rfl 24 (.tmp 1) rfl (w.heap.size) rfl 24 _ (0, 0) _ P8.out Try.underlying24 rfl (S.i24 _ _ _ _) ?_)
    | (go_at_call 33; (with_reducible refine (AL.out _ _ _ _ _ _ _ _ _ G8.out D8.out).mono ?_); rintro e w9 ⟨rfl, hb9⟩; have P9 := Lib.hid (bkBelow P8.out hb9); have D9 := Lib.hid (D8.out.later hb9); have E9 := Lib.hid (E8.out.later hb9); have T9 := Lib.hid (bkBelow T8.out hb9); have F9 := Lib.hid (F8.out.later hb9); have U9 := Lib.hid (bkBelow U8.out hb9); have G9 := Lib.hid (G8.out.later hb9); have V9 := Lib.hid (bkBelow V8.out hb9); have B9 := bdT B8 B8.size hb9; clear P8 D8 E8 T8 F8 U8 G8 V8))
  go_upto_region 9 with (first
    | (refine wpList_load_row rfl 24 (.tmp 1) rfl (w.heap.size) rfl 24 _ (0, 0) _ P9.out Try.underlying24 rfl (S.i24 _ _ _ _) ?_)
    | (go_at_call 34; (with_reducible refine (CV.out _ D9.out).mono ?_); rintro e w10 ⟨A4, c4, b4, o4, rfl, hk4, X4, hb10⟩; have P10 := Lib.hid (bkBelow P9.out hb10); have D10 := Lib.hid (D9.out.later hb10); have E10 := Lib.hid (E9.out.later hb10); have T10 := Lib.hid (bkBelow T9.out hb10); have F10 := Lib.hid (F9.out.later hb10); have U10 := Lib.hid (bkBelow U9.out hb10); have G10 := Lib.hid (G9.out.later hb10); have V10 := Lib.hid (bkBelow V9.out hb10); have B10 := bdT B9 B9.size hb10; have H10 := Lib.hid (X4); clear P9 D9 E9 T9 F9 U9 G9 V9)
    | (refine wpList_store_row rfl 24 (.tmp 9) (.tmp 58) rfl (w10.heap.size) ((cvS s 16).cs A4 n c4) rfl rfl 24 _ (heap_alloc_new w10 (Obj.cells #[Value.string ⟨#[]⟩, Value.slice none 0 0, iv 0, iv 0, iv 0, iv 0, iv 0, iv 0, iv 0, iv 0, iv 0, iv 0, iv 0] 24)) (S.i24 _ _ _ _) (S.sz S.zero _ none _ 0 0 _ _) (S.one _ _ _ _) ?_; have K11 := below_setRow ((Below.refl w10.heap.size w10).alloc (Nat.le_refl _) (Obj.cells #[Value.string ⟨#[]⟩, Value.slice none 0 0, iv 0, iv 0, iv 0, iv 0, iv 0, iv 0, iv 0, iv 0, iv 0, iv 0, iv 0] 24)) (g := w10.heap.size) (Nat.le_refl _) ((cvS s 16).cs A4 n c4); have P11 := Lib.hid (bkBelow P10.out K11); have D11 := Lib.hid (D10.out.later K11); have E11 := Lib.hid (E10.out.later K11); have T11 := Lib.hid (bkBelow T10.out K11); have F11 := Lib.hid (F10.out.later K11); have U11 := Lib.hid (bkBelow U10.out K11); have G11 := Lib.hid (G10.out.later K11); have V11 := Lib.hid (bkBelow V10.out K11); have H11 := Lib.hid (H10.out.later K11); have B11 := bdT B10 B10.size K11; have Y11 := Lib.hid (setRow_heap _ _ _ ((cvS s 16).cs A4 n c4) _ _ (heap_alloc_new w10 (Obj.cells #[Value.string ⟨#[]⟩, Value.slice none 0 0, iv 0, iv 0, iv 0, iv 0, iv 0, iv 0, iv 0, iv 0, iv 0, iv 0, iv 0] 24))); clear P10 D10 E10 T10 F10 U10 G10 V10 H10))
  go_upto_region 10 with (first
    | (refine wpList_load_row rfl 24 (.tmp 9) rfl (w10.heap.size) rfl 24 _ (0, 0) _ Y11.out Try.underlying24 rfl (S.i24 _ _ _ _) ?_)
    | (go_at_call 34; (with_reducible refine (CW.out _ _ _ _ _ hk4 H11.out).mono ?_); rintro e w12 ⟨A5, c5, b5, o5, rfl, hk5, X5, hb12⟩; have P12 := Lib.hid (bkBelow P11.out hb12); have D12 := Lib.hid (D11.out.later hb12); have E12 := Lib.hid (E11.out.later hb12); have T12 := Lib.hid (bkBelow T11.out hb12); have F12 := Lib.hid (F11.out.later hb12); have U12 := Lib.hid (bkBelow U11.out hb12); have G12 := Lib.hid (G11.out.later hb12); have V12 := Lib.hid (bkBelow V11.out hb12); have H12 := Lib.hid (H11.out.later hb12); have Y12 := Lib.hid (bkBelow Y11.out hb12); have B12 := bdT B11 B11.size hb12; have I12 := Lib.hid (X5); clear P11 D11 E11 T11 F11 U11 G11 V11 H11 Y11)
    | (refine wpList_store_row rfl 24 (.tmp 10) (.tmp 63) rfl (w12.heap.size) ((cvS (cvS s 16) 8).cs A5 n c5) rfl rfl 24 _ (heap_alloc_new w12 (Obj.cells #[Value.string ⟨#[]⟩, Value.slice none 0 0, iv 0, iv 0, iv 0, iv 0, iv 0, iv 0, iv 0, iv 0, iv 0, iv 0, iv 0] 24)) (S.i24 _ _ _ _) (S.sz S.zero _ none _ 0 0 _ _) (S.one _ _ _ _) ?_; have K13 := below_setRow ((Below.refl w12.heap.size w12).alloc (Nat.le_refl _) (Obj.cells #[Value.string ⟨#[]⟩, Value.slice none 0 0, iv 0, iv 0, iv 0, iv 0, iv 0, iv 0, iv 0, iv 0, iv 0, iv 0, iv 0] 24)) (g := w12.heap.size) (Nat.le_refl _) ((cvS (cvS s 16) 8).cs A5 n c5); have P13 := Lib.hid (bkBelow P12.out K13); have D13 := Lib.hid (D12.out.later K13); have E13 := Lib.hid (E12.out.later K13); have T13 := Lib.hid (bkBelow T12.out K13); have F13 := Lib.hid (F12.out.later K13); have U13 := Lib.hid (bkBelow U12.out K13); have G13 := Lib.hid (G12.out.later K13); have V13 := Lib.hid (bkBelow V12.out K13); have H13 := Lib.hid (H12.out.later K13); have Y13 := Lib.hid (bkBelow Y12.out K13); have I13 := Lib.hid (I12.out.later K13); have B13 := bdT B12 B12.size K13; have Z13 := Lib.hid (setRow_heap _ _ _ ((cvS (cvS s 16) 8).cs A5 n c5) _ _ (heap_alloc_new w12 (Obj.cells #[Value.string ⟨#[]⟩, Value.slice none 0 0, iv 0, iv 0, iv 0, iv 0, iv 0, iv 0, iv 0, iv 0, iv 0, iv 0, iv 0] 24))); clear P12 D12 E12 T12 F12 U12 G12 V12 H12 Y12 I12))
  have z2 := (bkCell P13.out 2).trans (show _ = some (iv s.a2) from rfl)
  rw [HB.out] at z2
  have ZC := Lib.hid (show (cvS (cvS s 16) 8).cs A5 n c5 = s.cs A5 n c5 from by rw [cv_back HB.out])
  have I2 := Lib.hid (I13.out.congr (ys := xs) (fun i _ => by rw [HB.out]; exact cvF_back xs i))
  have ZZ := Lib.hid (Z13.out.trans (congrArg (fun c => some (Obj.cells c 24 (0, 0))) ZC.out))
  go_wp2_with (first
    | (refine gdOn (by rfl) ?_; refine wpList_load_row rfl 24 (.tmp 10) rfl (w12.heap.size) rfl 24 _ (0, 0) _ ZZ.out Try.underlying24 rfl (S.i24 _ _ _ _) ?_)
    | (refine gdOn (by rfl) ?_; refine wpList_load_row rfl 24 (.tmp 1) rfl (w.heap.size) rfl 24 _ (0, 0) _ P13.out Try.underlying24 rfl (S.i24 _ _ _ _) ?_)
    | (go_at_call 33; (with_reducible refine (AL.out _ _ _ _ _ _ _ _ _ I2.out D13.out).mono ?_); rintro e w14 ⟨rfl, hb14⟩; have P14 := Lib.hid (bkBelow P13.out hb14); have D14 := Lib.hid (D13.out.later hb14); have E14 := Lib.hid (E13.out.later hb14); have T14 := Lib.hid (bkBelow T13.out hb14); have F14 := Lib.hid (F13.out.later hb14); have U14 := Lib.hid (bkBelow U13.out hb14); have G14 := Lib.hid (G13.out.later hb14); have V14 := Lib.hid (bkBelow V13.out hb14); have H14 := Lib.hid (H13.out.later hb14); have Y14 := Lib.hid (bkBelow Y13.out hb14); have I14 := Lib.hid (I13.out.later hb14); have B14 := bdT B13 B13.size hb14; clear P13 D13 E13 T13 F13 U13 G13 V13 H13 Y13 I13; have y2 := (bkCell Y14.out 2).trans (show _ = some (iv 16) from rfl))
    | (go_at_call 16; (with_reducible refine (awake_any _).mono ?_); rintro e wz ⟨rfl, hbz⟩))
  go_ret
  exact ⟨rfl, bdT B14 B14.size hbz⟩
set_option maxHeartbeats 16000000 in
set_option maxRecDepth 100000 in
theorem backs_16 (s : S) (A : Option Addr) (n c0 b o : Nat) (xs : Nat → Int) (hv : vS s n xs = true) (hb8 : s.a2 = 16) (hn : n ≤ 9223372036854775807) (hc0 : n ≤ c0) (w : World) (hA : DataAt w A n b o xs) : Calls Try.prog 8 #[.agg (s.cs A n c0)] w fun e w' => e = .returned (.bool true) ∧ Below w.heap.size w w' := by
  have HB := Lib.hid hb8
  have hn2 := (vS_yes hv).2.2.1
  have HN := Lib.hid (show n ≤ 20000000000000 by omega)
  have RV := Lib.hid fun (W : World) (h : DataAt W A n b o xs) => gives_data (srev_ok s A n c0 b o xs hv hn hc0 W h)
  have RV2 := Lib.hid fun (A' : Option Addr) (c' b' o' : Nat) (W : World) (hk : n ≤ c') (h : DataAt W A' n b' o' (revF n xs)) => gives_data (gives_congr (srev_ok (revS s n) A' n c' b' o' (revF n xs) (rev_valid hv) hn hk W h) (rev_twice s n) rfl (revF_twice n xs))
  have CR := Lib.hid fun (W : World) (h : DataAt W A n b o xs) => gives_data (show Gives 32 #[.agg (s.cs A n c0), iv 0, iv n] W s n xs 0 from gives_congr (scrop_ok s A n c0 b o xs 0 n hv (Nat.zero_le _) (Nat.le_refl _) hn hc0 W h) (crop_all hv) (Nat.sub_zero n) (fun i _ => by rw [Nat.zero_add]))
  have CV := Lib.hid fun (W : World) (h : DataAt W A n b o xs) => gives_data (sconv_ok s A n c0 b o xs 16 (.inr rfl) hv hn hc0 W h)
  have CW := Lib.hid fun (A' : Option Addr) (c' b' o' : Nat) (W : World) (hk : n ≤ c') (h : DataAt W A' n b' o' (cvF s.a2 16 xs)) => gives_data (sconv_ok (cvS s 16) A' n c' b' o' (cvF s.a2 16 xs) 8 (.inl rfl) (cv_valid hv (.inr rfl)) hn hk W h)
  have AL := Lib.hid fun (A' D : Option Addr) (c' d b' o' b2 o2 : Nat) (W : World) (h : DataAt W A' n b' o' xs) (k : DataAt W D n b2 o2 xs) => alike_yes s A' n c' D d b' o' b2 o2 xs (by omega) W h k
  have B0 : Below w.heap.size w (w.alloc (Obj.cells (s.cs A n c0) 24)) := (Below.refl _ _).alloc (Nat.le_refl _) _
  have P0 := Lib.hid (show (w.alloc (Obj.cells (s.cs A n c0) 24)).heap[w.heap.size]? = some (.cells (s.cs A n c0) 24 (0, 0)) from heap_alloc_new w _)
  have D0 := Lib.hid (hA.later B0)
  have VC := Lib.hid (show ∀ (W : World), DataAt W A n b o xs → Calls Try.prog 15 #[.agg (s.cs A n c0)] W fun e w' => e = .returned (.bool true) ∧ Below W.heap.size W w' from fun W h => by have := valid_any s A n c0 b o xs hn hc0 W h; rwa [hv] at this)
  clear hA hv hb8 hn2
  go_enter Try.func8, Try.ntmps8
  go_upto_region 3 with (first
    | (refine wpList_load_row rfl 24 (.tmp 1) rfl (w.heap.size) rfl 24 _ (0, 0) _ P0.out Try.underlying24 rfl (S.i24 _ _ _ _) ?_)
    | (go_at_call 15; (with_reducible refine (VC.out _ D0.out).mono ?_); rintro e w1 ⟨rfl, hb1⟩; have P1 := Lib.hid (bkBelow P0.out hb1); have D1 := Lib.hid (D0.out.later hb1); have B1 := bdT B0 B0.size hb1))
  go_upto_region 4 with (first
    | (refine wpList_load_row rfl 24 (.tmp 1) rfl (w.heap.size) rfl 24 _ (0, 0) _ P1.out Try.underlying24 rfl (S.i24 _ _ _ _) ?_)
    | (go_at_call 31; (with_reducible refine (RV.out _ D1.out).mono ?_); rintro e w2 ⟨A1, c1, b1, o1, rfl, hk1, X1, hb2⟩; have P2 := Lib.hid (bkBelow P1.out hb2); have D2 := Lib.hid (D1.out.later hb2); have B2 := bdT B1 B1.size hb2; have E2 := Lib.hid (X1); clear P1 D1)
    | (refine wpList_store_row rfl 24 (.tmp 3) (.tmp 18) rfl (w2.heap.size) ((revS s n).cs A1 n c1) rfl rfl 24 _ (heap_alloc_new w2 (Obj.cells #[Value.string ⟨#[]⟩, Value.slice none 0 0, iv 0, iv 0, iv 0, iv 0, iv 0, iv 0, iv 0, iv 0, iv 0, iv 0, iv 0] 24)) (S.i24 _ _ _ _) (S.sz S.zero _ none _ 0 0 _ _) (S.one _ _ _ _) ?_; have K3 := below_setRow ((Below.refl w2.heap.size w2).alloc (Nat.le_refl _) (Obj.cells #[Value.string ⟨#[]⟩, Value.slice none 0 0, iv 0, iv 0, iv 0, iv 0, iv 0, iv 0, iv 0, iv 0, iv 0, iv 0, iv 0] 24)) (g := w2.heap.size) (Nat.le_refl _) ((revS s n).cs A1 n c1); have P3 := Lib.hid (bkBelow P2.out K3); have D3 := Lib.hid (D2.out.later K3); have E3 := Lib.hid (E2.out.later K3); have B3 := bdT B2 B2.size K3; have T3 := Lib.hid (setRow_heap _ _ _ ((revS s n).cs A1 n c1) _ _ (heap_alloc_new w2 (Obj.cells #[Value.string ⟨#[]⟩, Value.slice none 0 0, iv 0, iv 0, iv 0, iv 0, iv 0, iv 0, iv 0, iv 0, iv 0, iv 0, iv 0] 24))); clear P2 D2 E2))
  go_upto_region 5 with (first
    | (refine wpList_load_row rfl 24 (.tmp 3) rfl (w2.heap.size) rfl 24 _ (0, 0) _ T3.out Try.underlying24 rfl (S.i24 _ _ _ _) ?_)
    | (go_at_call 31; (with_reducible refine (RV2.out _ _ _ _ _ hk1 E3.out).mono ?_); rintro e w4 ⟨A2, c2, b2, o2, rfl, hk2, X2, hb4⟩; have P4 := Lib.hid (bkBelow P3.out hb4); have D4 := Lib.hid (D3.out.later hb4); have E4 := Lib.hid (E3.out.later hb4); have T4 := Lib.hid (bkBelow T3.out hb4); have B4 := bdT B3 B3.size hb4; have F4 := Lib.hid (X2); clear P3 D3 E3 T3)
    | (refine wpList_store_row rfl 24 (.tmp 5) (.tmp 23) rfl (w4.heap.size) (s.cs A2 n c2) rfl rfl 24 _ (heap_alloc_new w4 (Obj.cells #[Value.string ⟨#[]⟩, Value.slice none 0 0, iv 0, iv 0, iv 0, iv 0, iv 0, iv 0, iv 0, iv 0, iv 0, iv 0, iv 0] 24)) (S.i24 _ _ _ _) (S.sz S.zero _ none _ 0 0 _ _) (S.one _ _ _ _) ?_; have K5 := below_setRow ((Below.refl w4.heap.size w4).alloc (Nat.le_refl _) (Obj.cells #[Value.string ⟨#[]⟩, Value.slice none 0 0, iv 0, iv 0, iv 0, iv 0, iv 0, iv 0, iv 0, iv 0, iv 0, iv 0, iv 0] 24)) (g := w4.heap.size) (Nat.le_refl _) (s.cs A2 n c2); have P5 := Lib.hid (bkBelow P4.out K5); have D5 := Lib.hid (D4.out.later K5); have E5 := Lib.hid (E4.out.later K5); have T5 := Lib.hid (bkBelow T4.out K5); have F5 := Lib.hid (F4.out.later K5); have B5 := bdT B4 B4.size K5; have U5 := Lib.hid (setRow_heap _ _ _ (s.cs A2 n c2) _ _ (heap_alloc_new w4 (Obj.cells #[Value.string ⟨#[]⟩, Value.slice none 0 0, iv 0, iv 0, iv 0, iv 0, iv 0, iv 0, iv 0, iv 0, iv 0, iv 0, iv 0] 24))); clear P4 D4 E4 T4 F4))
  have z1 := (bkCell P5.out 1).trans (show _ = some (Value.slice A n c0) from rfl)
  go_upto_region 6 with (first
    | (refine wpList_load_row rfl 24 (.tmp 1) rfl (w.heap.size) rfl 24 _ (0, 0) _ P5.out Try.underlying24 rfl (S.i24 _ _ _ _) ?_)
    | (go_at_call 32; (with_reducible refine (CR.out _ D5.out).mono ?_); rintro e w6 ⟨A3, c3, b3, o3, rfl, hk3, X3, hb6⟩; have P6 := Lib.hid (bkBelow P5.out hb6); have D6 := Lib.hid (D5.out.later hb6); have E6 := Lib.hid (E5.out.later hb6); have T6 := Lib.hid (bkBelow T5.out hb6); have F6 := Lib.hid (F5.out.later hb6); have U6 := Lib.hid (bkBelow U5.out hb6); have B6 := bdT B5 B5.size hb6; have G6 := Lib.hid (X3); clear P5 D5 E5 T5 F5 U5)
    | (refine wpList_store_row rfl 24 (.tmp 7) (.tmp 31) rfl (w6.heap.size) (s.cs A3 n c3) rfl rfl 24 _ (heap_alloc_new w6 (Obj.cells #[Value.string ⟨#[]⟩, Value.slice none 0 0, iv 0, iv 0, iv 0, iv 0, iv 0, iv 0, iv 0, iv 0, iv 0, iv 0, iv 0] 24)) (S.i24 _ _ _ _) (S.sz S.zero _ none _ 0 0 _ _) (S.one _ _ _ _) ?_; have K7 := below_setRow ((Below.refl w6.heap.size w6).alloc (Nat.le_refl _) (Obj.cells #[Value.string ⟨#[]⟩, Value.slice none 0 0, iv 0, iv 0, iv 0, iv 0, iv 0, iv 0, iv 0, iv 0, iv 0, iv 0, iv 0] 24)) (g := w6.heap.size) (Nat.le_refl _) (s.cs A3 n c3); have P7 := Lib.hid (bkBelow P6.out K7); have D7 := Lib.hid (D6.out.later K7); have E7 := Lib.hid (E6.out.later K7); have T7 := Lib.hid (bkBelow T6.out K7); have F7 := Lib.hid (F6.out.later K7); have U7 := Lib.hid (bkBelow U6.out K7); have G7 := Lib.hid (G6.out.later K7); have B7 := bdT B6 B6.size K7; have V7 := Lib.hid (setRow_heap _ _ _ (s.cs A3 n c3) _ _ (heap_alloc_new w6 (Obj.cells #[Value.string ⟨#[]⟩, Value.slice none 0 0, iv 0, iv 0, iv 0, iv 0, iv 0, iv 0, iv 0, iv 0, iv 0, iv 0, iv 0] 24))); clear P6 D6 E6 T6 F6 U6 G6))
  clear z1
  go_upto_region 8 with (first
    | (refine gdOn (by rfl) ?_; refine wpList_load_row rfl 24 (.tmp 5) rfl (w4.heap.size) rfl 24 _ (0, 0) _ U7.out Try.underlying24 rfl (S.i24 _ _ _ _) ?_)
    | (refine gdOn (by rfl) ?_; refine wpList_load_row rfl 24 (.tmp 1) rfl (w.heap.size) rfl 24 _ (0, 0) _ P7.out Try.underlying24 rfl (S.i24 _ _ _ _) ?_)
    | (go_at_call 33; (with_reducible refine (AL.out _ _ _ _ _ _ _ _ _ F7.out D7.out).mono ?_); rintro e w8 ⟨rfl, hb8⟩; have P8 := Lib.hid (bkBelow P7.out hb8); have D8 := Lib.hid (D7.out.later hb8); have E8 := Lib.hid (E7.out.later hb8); have T8 := Lib.hid (bkBelow T7.out hb8); have F8 := Lib.hid (F7.out.later hb8); have U8 := Lib.hid (bkBelow U7.out hb8); have G8 := Lib.hid (G7.out.later hb8); have V8 := Lib.hid (bkBelow V7.out hb8); have B8 := bdT B7 B7.size hb8; clear P7 D7 E7 T7 F7 U7 G7 V7)
    | (refine gdOn (by rfl) ?_; refine wpList_load_row rfl 24 (.tmp 7) rfl (w6.heap.size) rfl 24 _ (0, 0) _ V8.out Try.underlying24 rfl (S.i24 _ _ _ _) ?_)
    | (refine gdOn (by rfl) ?_; refine wpList_load_row rfl 24 (.tmp 1) rfl (w.heap.size) rfl 24 _ (0, 0) _ P8.out Try.underlying24 rfl (S.i24 _ _ _ _) ?_)
    | (go_at_call 33; (with_reducible refine (AL.out _ _ _ _ _ _ _ _ _ G8.out D8.out).mono ?_); rintro e w9 ⟨rfl, hb9⟩; have P9 := Lib.hid (bkBelow P8.out hb9); have D9 := Lib.hid (D8.out.later hb9); have E9 := Lib.hid (E8.out.later hb9); have T9 := Lib.hid (bkBelow T8.out hb9); have F9 := Lib.hid (F8.out.later hb9); have U9 := Lib.hid (bkBelow U8.out hb9); have G9 := Lib.hid (G8.out.later hb9); have V9 := Lib.hid (bkBelow V8.out hb9); have B9 := bdT B8 B8.size hb9; clear P8 D8 E8 T8 F8 U8 G8 V8))
  go_upto_region 9 with (first
    | (refine wpList_load_row rfl 24 (.tmp 1) rfl (w.heap.size) rfl 24 _ (0, 0) _ P9.out Try.underlying24 rfl (S.i24 _ _ _ _) ?_)
    | (go_at_call 34; (with_reducible refine (CV.out _ D9.out).mono ?_); rintro e w10 ⟨A4, c4, b4, o4, rfl, hk4, X4, hb10⟩; have P10 := Lib.hid (bkBelow P9.out hb10); have D10 := Lib.hid (D9.out.later hb10); have E10 := Lib.hid (E9.out.later hb10); have T10 := Lib.hid (bkBelow T9.out hb10); have F10 := Lib.hid (F9.out.later hb10); have U10 := Lib.hid (bkBelow U9.out hb10); have G10 := Lib.hid (G9.out.later hb10); have V10 := Lib.hid (bkBelow V9.out hb10); have B10 := bdT B9 B9.size hb10; have H10 := Lib.hid (X4); clear P9 D9 E9 T9 F9 U9 G9 V9)
    | (refine wpList_store_row rfl 24 (.tmp 9) (.tmp 58) rfl (w10.heap.size) ((cvS s 16).cs A4 n c4) rfl rfl 24 _ (heap_alloc_new w10 (Obj.cells #[Value.string ⟨#[]⟩, Value.slice none 0 0, iv 0, iv 0, iv 0, iv 0, iv 0, iv 0, iv 0, iv 0, iv 0, iv 0, iv 0] 24)) (S.i24 _ _ _ _) (S.sz S.zero _ none _ 0 0 _ _) (S.one _ _ _ _) ?_; have K11 := below_setRow ((Below.refl w10.heap.size w10).alloc (Nat.le_refl _) (Obj.cells #[Value.string ⟨#[]⟩, Value.slice none 0 0, iv 0, iv 0, iv 0, iv 0, iv 0, iv 0, iv 0, iv 0, iv 0, iv 0, iv 0] 24)) (g := w10.heap.size) (Nat.le_refl _) ((cvS s 16).cs A4 n c4); have P11 := Lib.hid (bkBelow P10.out K11); have D11 := Lib.hid (D10.out.later K11); have E11 := Lib.hid (E10.out.later K11); have T11 := Lib.hid (bkBelow T10.out K11); have F11 := Lib.hid (F10.out.later K11); have U11 := Lib.hid (bkBelow U10.out K11); have G11 := Lib.hid (G10.out.later K11); have V11 := Lib.hid (bkBelow V10.out K11); have H11 := Lib.hid (H10.out.later K11); have B11 := bdT B10 B10.size K11; have Y11 := Lib.hid (setRow_heap _ _ _ ((cvS s 16).cs A4 n c4) _ _ (heap_alloc_new w10 (Obj.cells #[Value.string ⟨#[]⟩, Value.slice none 0 0, iv 0, iv 0, iv 0, iv 0, iv 0, iv 0, iv 0, iv 0, iv 0, iv 0, iv 0] 24))); clear P10 D10 E10 T10 F10 U10 G10 V10 H10))
  go_upto_region 10 with (first
    | (refine wpList_load_row rfl 24 (.tmp 9) rfl (w10.heap.size) rfl 24 _ (0, 0) _ Y11.out Try.underlying24 rfl (S.i24 _ _ _ _) ?_)
    | (go_at_call 34; (with_reducible refine (CW.out _ _ _ _ _ hk4 H11.out).mono ?_); rintro e w12 ⟨A5, c5, b5, o5, rfl, hk5, X5, hb12⟩; have P12 := Lib.hid (bkBelow P11.out hb12); have D12 := Lib.hid (D11.out.later hb12); have E12 := Lib.hid (E11.out.later hb12); have T12 := Lib.hid (bkBelow T11.out hb12); have F12 := Lib.hid (F11.out.later hb12); have U12 := Lib.hid (bkBelow U11.out hb12); have G12 := Lib.hid (G11.out.later hb12); have V12 := Lib.hid (bkBelow V11.out hb12); have H12 := Lib.hid (H11.out.later hb12); have Y12 := Lib.hid (bkBelow Y11.out hb12); have B12 := bdT B11 B11.size hb12; have I12 := Lib.hid (X5); clear P11 D11 E11 T11 F11 U11 G11 V11 H11 Y11)
    | (refine wpList_store_row rfl 24 (.tmp 10) (.tmp 63) rfl (w12.heap.size) ((cvS (cvS s 16) 8).cs A5 n c5) rfl rfl 24 _ (heap_alloc_new w12 (Obj.cells #[Value.string ⟨#[]⟩, Value.slice none 0 0, iv 0, iv 0, iv 0, iv 0, iv 0, iv 0, iv 0, iv 0, iv 0, iv 0, iv 0] 24)) (S.i24 _ _ _ _) (S.sz S.zero _ none _ 0 0 _ _) (S.one _ _ _ _) ?_; have K13 := below_setRow ((Below.refl w12.heap.size w12).alloc (Nat.le_refl _) (Obj.cells #[Value.string ⟨#[]⟩, Value.slice none 0 0, iv 0, iv 0, iv 0, iv 0, iv 0, iv 0, iv 0, iv 0, iv 0, iv 0, iv 0] 24)) (g := w12.heap.size) (Nat.le_refl _) ((cvS (cvS s 16) 8).cs A5 n c5); have P13 := Lib.hid (bkBelow P12.out K13); have D13 := Lib.hid (D12.out.later K13); have E13 := Lib.hid (E12.out.later K13); have T13 := Lib.hid (bkBelow T12.out K13); have F13 := Lib.hid (F12.out.later K13); have U13 := Lib.hid (bkBelow U12.out K13); have G13 := Lib.hid (G12.out.later K13); have V13 := Lib.hid (bkBelow V12.out K13); have H13 := Lib.hid (H12.out.later K13); have Y13 := Lib.hid (bkBelow Y12.out K13); have I13 := Lib.hid (I12.out.later K13); have B13 := bdT B12 B12.size K13; have Z13 := Lib.hid (setRow_heap _ _ _ ((cvS (cvS s 16) 8).cs A5 n c5) _ _ (heap_alloc_new w12 (Obj.cells #[Value.string ⟨#[]⟩, Value.slice none 0 0, iv 0, iv 0, iv 0, iv 0, iv 0, iv 0, iv 0, iv 0, iv 0, iv 0, iv 0] 24))); clear P12 D12 E12 T12 F12 U12 G12 V12 H12 Y12 I12))
  have z2 := (bkCell P13.out 2).trans (show _ = some (iv s.a2) from rfl)
  rw [HB.out] at z2
  have y2 := (bkCell Y13.out 2).trans (show _ = some (iv 16) from rfl)
  go_wp2_with (first
    | (go_at_call 16; (with_reducible refine (awake_any _).mono ?_); rintro e wz ⟨rfl, hbz⟩))
  go_ret
  exact ⟨rfl, bdT B13 B13.size hbz⟩
theorem backs_any (s : S) (A : Option Addr) (n c0 b o : Nat) (xs : Nat → Int) (hn : n ≤ 9223372036854775807) (hc0 : n ≤ c0) (w : World) (hA : DataAt w A n b o xs) : Calls Try.prog 8 #[.agg (s.cs A n c0)] w fun e w' => e = .returned (.bool true) ∧ Below w.heap.size w w' := by
  cases hv : vS s n xs
  · exact backs_bad s A n c0 b o xs hv hn hc0 w hA
  · rcases (vS_yes hv).2.1 with h | h
    · exact backs_8 s A n c0 b o xs hv h hn hc0 w hA
    · exact backs_16 s A n c0 b o xs hv h hn hc0 w hA
theorem backs_law (s : S) (A : Option Addr) (n c0 : Nat) (zs : List Int) (w : World) (h : RowOf w A n c0 zs) : Calls Try.prog 8 #[.agg (s.cs A n c0)] w fun e w' => e = .returned (.bool true) ∧ Below w.heap.size w w' := by
  obtain ⟨k1, hn, b, o, d1⟩ := dataOf h
  exact backs_any s A n c0 b o _ hn k1 w d1
end Go.Proofs.Ytnmoiolddfboiaa.SX

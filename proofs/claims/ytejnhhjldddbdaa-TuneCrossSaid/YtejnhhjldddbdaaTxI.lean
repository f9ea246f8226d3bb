/- The law on a sample that is normalized, and one that is centered. -/
import Derived.Test.YtejnhhjldddbdaaTxH
namespace Go.Proofs.Ytejnhhjldddbdaa.TX
open Go.RowKit Go.Proofs.YtejnhhjldddbdaaW.PrintLast
set_option linter.unusedVariables false
set_option linter.unusedSimpArgs false
theorem cent_answers (s : S) (A : Option Addr) (n c b o : Nat) (xs : Nat → Int) (hn : n ≤ 5000) (hc : n ≤ c) : ∃ (s0 : S) (N : Nat) (F : Nat → Int) (err : Int), (err = 0 ∨ err ≠ 0 ∧ s0 = S.zero ∧ N = 0) ∧ N ≤ 1000000 ∧
      (∀ w, DataAt w A n b o xs → Calls Try.prog 38 #[.agg (s.cs A n c)] w fun e w' => ∃ A c b o, e = .returned (.tuple #[.agg (s0.cs A N c), iv err]) ∧ DataAt w' A N b o F ∧ Below w.heap.size w w') ∧
      ∀ w, DataAt w A n b o xs → Calls Try.prog 39 #[.agg (s.cs A n c)] w fun e w' => ∃ A c b o, e = .returned (.tuple #[.agg (s0.cs A N c), iv err]) ∧ DataAt w' A N b o F ∧ Below w.heap.size w w' := by
  by_cases va : vS s n xs = true
  · obtain ⟨f1, -, ⟨h, hbt, hx⟩, -⟩ := vS_facts va
    by_cases h0 : n = 0
    · exact ⟨s, n, _, 0, .inl rfl, by omega, fun w hw => cent_ok s A n c b o xs w hw (by omega) hc h hbt hx va (by omega), fun w hw => rcent_nil s A n c b o xs w hw (by omega) hc h hbt hx va h0 (by omega)⟩
    · exact ⟨s, n, _, 0, .inl rfl, by omega, fun w hw => cent_ok s A n c b o xs w hw (by omega) hc h hbt hx va (by omega), fun w hw => rcent_ok s A n c b o xs w hw (by omega) hc h hbt hx va (by omega) (by omega)⟩
  · exact ⟨S.zero, 0, fun _ => 0, 1, .inr ⟨by omega, rfl, rfl⟩, by omega, answers_err (M := fun w => DataAt w A n b o xs) (fun w hw => cent_bad s A n c b o xs w hw (by omega) hc (vS_no va)), answers_err (M := fun w => DataAt w A n b o xs) (fun w hw => rcent_bad s A n c b o xs w hw (by omega) hc (vS_no va))⟩
theorem norm_answers (s : S) (A : Option Addr) (n c b o : Nat) (xs : Nat → Int) (hn : n ≤ 5000) (hc : n ≤ c) : ∃ (s0 : S) (N : Nat) (F : Nat → Int) (err : Int), (err = 0 ∨ err ≠ 0 ∧ s0 = S.zero ∧ N = 0) ∧ N ≤ 1000000 ∧
      (∀ w, DataAt w A n b o xs → Calls Try.prog 36 #[.agg (s.cs A n c)] w fun e w' => ∃ A c b o, e = .returned (.tuple #[.agg (s0.cs A N c), iv err]) ∧ DataAt w' A N b o F ∧ Below w.heap.size w w') ∧
      ∀ w, DataAt w A n b o xs → Calls Try.prog 37 #[.agg (s.cs A n c)] w fun e w' => ∃ A c b o, e = .returned (.tuple #[.agg (s0.cs A N c), iv err]) ∧ DataAt w' A N b o F ∧ Below w.heap.size w w' := by
  by_cases va : vS s n xs = true
  · obtain ⟨f1, -, ⟨h, hbt, hx⟩, -⟩ := vS_facts va
    by_cases hm : mx xs n = 0
    · exact ⟨S.zero, 0, fun _ => 0, 7, .inr ⟨by omega, rfl, rfl⟩, by omega, answers_err (M := fun w => DataAt w A n b o xs) (fun w hw => norm_none s A n c b o xs w hw (by omega) hc h hbt hx va (by omega) hm), answers_err (M := fun w => DataAt w A n b o xs) (fun w hw => rnorm_none s A n c b o xs w hw (by omega) hc h hbt hx va (by omega) hm)⟩
    · rcases (hbt : s.a2 = 8 ∧ h = 128 ∨ s.a2 = 16 ∧ h = 32768) with ⟨e8, rfl⟩ | ⟨e8, rfl⟩
      · exact ⟨s, n, fun i => clp 128 (nr (xs i * 127) (mx xs n)), 0, .inl rfl, by omega, fun w hw => norm_ok s A n c b o xs w hw (by omega) hc 128 (.inl ⟨e8, rfl⟩) hx va (by omega) hm, fun w hw => rnorm_ok8 s A n c b o xs w hw (by omega) hc (.inl ⟨e8, rfl⟩) hx va (by omega) e8 hm⟩
      · exact ⟨s, n, fun i => clp 32768 (nr (xs i * 32767) (mx xs n)), 0, .inl rfl, by omega, fun w hw => norm_ok s A n c b o xs w hw (by omega) hc 32768 (.inr ⟨e8, rfl⟩) hx va (by omega) hm, fun w hw => rnorm_ok16 s A n c b o xs w hw (by omega) hc (.inr ⟨e8, rfl⟩) hx va (by omega) e8 hm⟩
  · exact ⟨S.zero, 0, fun _ => 0, 1, .inr ⟨by omega, rfl, rfl⟩, by omega, answers_err (M := fun w => DataAt w A n b o xs) (fun w hw => norm_bad s A n c b o xs w hw (by omega) hc (vS_no va)), answers_err (M := fun w => DataAt w A n b o xs) (fun w hw => rnorm_bad s A n c b o xs w hw (by omega) hc (vS_no va))⟩
set_option maxHeartbeats 16000000 in
set_option maxRecDepth 100000 in
theorem levellaw_any (s : S) (A : Option Addr) (n c b o : Nat) (xs : Nat → Int) (hc : n ≤ c) (w : World) (hA : DataAt w A n b o xs) :
    Calls Try.prog 11 #[.agg (s.cs A n c)] w fun e w' => e = .returned (.bool true) ∧ Below w.heap.size w w' := by
  have hB0 : Below w.heap.size w (w.alloc (Obj.cells (s.cs A n c) 24)) := (Below.refl _ _).alloc (Nat.le_refl _) _
  have P0 := Lib.hid (heap_alloc_new w (Obj.cells (s.cs A n c) 24))
  by_cases ha : n ≤ 5000 ∧ s.nm.size ≤ 100
  · have ta : decide (n ≤ 5000 ∧ s.nm.size ≤ 100) = true := decide_eq_true ha
    obtain ⟨s1, N1, Q1, e1, he1, hN1, a1, a2⟩ := norm_answers s A n c b o xs ha.1 hc
    obtain ⟨s2, N2, Q2, e2, he2, hN2, a3, a4⟩ := cent_answers s A n c b o xs ha.1 hc
    have HD := Lib.hid hA
    have HA1 := Lib.hid a1
    have HA2 := Lib.hid a2
    have HA3 := Lib.hid a3
    have HA4 := Lib.hid a4
    have HE1 := Lib.hid (And.intro he1 hN1)
    have HE2 := Lib.hid (And.intro he2 hN2)
    clear hA a1 a2 a3 a4 he1 he2 hN1 hN2 ha
    go_enter Try.func11, Try.ntmps11
    go_upto_region 3 with (first
      | (refine wpList_load_row rfl 24 (.tmp 1) rfl (w.heap.size) rfl 24 _ (0, 0) _ P0.out Try.underlying24 rfl (S.i24 _ _ _ _) ?_)
      | (go_at_call 15; (with_reducible refine (tame_any s A n c _).mono ?_); rintro e w1 ⟨rfl, hb1⟩; have P1 := Lib.hid (bkBelow P0.out hb1); have B1 := bdT hB0 hB0.size hb1; simp only [ta]))
    go_upto_region 4 with (first
      | (refine wpList_load_row rfl 24 (.tmp 1) rfl (w.heap.size) rfl 24 _ (0, 0) _ P1.out Try.underlying24 rfl (S.i24 _ _ _ _) ?_)
      | (go_at_call 36; (with_reducible refine (HA1.out _ (HD.out.later B1)).mono ?_); rintro e w2 ⟨A2, c2, b2, o2, rfl, X2, hb2⟩; have Y0_2 := Lib.hid (bkBelow P1.out hb2); have G2 := bdT B1 B1.size hb2; have V2 := Lib.hid X2; have Z2 := Lib.hid (heap_alloc_new w2 (Obj.cells #[Value.string ⟨#[]⟩, Value.slice none 0 0, iv 0, iv 0, iv 0, iv 0, iv 0, iv 0, iv 0, iv 0, iv 0, iv 0, iv 0] 24)))
      | (refine wpList_store_row rfl 24 (.tmp 3) (.tmp 17) rfl (w2.heap.size) (s1.cs A2 N1 c2) rfl rfl 24 _ Z2.out (S.i24 _ _ _ _) (S.sz S.zero s1 none _ 0 0 _ _) (S.one _ _ _ _) ?_; have K2 := below_setRow ((Below.refl w2.heap.size w2).alloc (Nat.le_refl _) (Obj.cells #[Value.string ⟨#[]⟩, Value.slice none 0 0, iv 0, iv 0, iv 0, iv 0, iv 0, iv 0, iv 0, iv 0, iv 0, iv 0, iv 0] 24)) (g := w2.heap.size) (Nat.le_refl _) (s1.cs A2 N1 c2); have Ea_2 := Lib.hid (setRow_heap _ _ _ (s1.cs A2 N1 c2) _ _ Z2.out); have P2 := Lib.hid (bkBelow Y0_2.out K2); have B2 := bdT G2 G2.size K2; have Da_2 := Lib.hid (V2.out.later K2); clear Z2 V2 G2 K2 Y0_2 ))
    go_upto_region 5 with (first
      | (refine wpList_load_row rfl 24 (.tmp 1) rfl (w.heap.size) rfl 24 _ (0, 0) _ P2.out Try.underlying24 rfl (S.i24 _ _ _ _) ?_)
      | (go_at_call 37; (with_reducible refine (HA2.out _ (HD.out.later B2)).mono ?_); rintro e w3 ⟨A3, c3, b3, o3, rfl, X3, hb3⟩; have Y0_3 := Lib.hid (bkBelow P2.out hb3); have Y1_3 := Lib.hid (bkBelow Ea_2.out hb3); have U0_3 := Lib.hid (Da_2.out.later hb3); have G3 := bdT B2 B2.size hb3; have V3 := Lib.hid X3; have Z3 := Lib.hid (heap_alloc_new w3 (Obj.cells #[Value.string ⟨#[]⟩, Value.slice none 0 0, iv 0, iv 0, iv 0, iv 0, iv 0, iv 0, iv 0, iv 0, iv 0, iv 0, iv 0] 24)))
      | (refine wpList_store_row rfl 24 (.tmp 5) (.tmp 22) rfl (w3.heap.size) (s1.cs A3 N1 c3) rfl rfl 24 _ Z3.out (S.i24 _ _ _ _) (S.sz S.zero s1 none _ 0 0 _ _) (S.one _ _ _ _) ?_; have K3 := below_setRow ((Below.refl w3.heap.size w3).alloc (Nat.le_refl _) (Obj.cells #[Value.string ⟨#[]⟩, Value.slice none 0 0, iv 0, iv 0, iv 0, iv 0, iv 0, iv 0, iv 0, iv 0, iv 0, iv 0, iv 0] 24)) (g := w3.heap.size) (Nat.le_refl _) (s1.cs A3 N1 c3); have Eb_3 := Lib.hid (setRow_heap _ _ _ (s1.cs A3 N1 c3) _ _ Z3.out); have P3 := Lib.hid (bkBelow Y0_3.out K3); have Ea_3 := Lib.hid (bkBelow Y1_3.out K3); have Da_3 := Lib.hid (U0_3.out.later K3); have B3 := bdT G3 G3.size K3; have Db_3 := Lib.hid (V3.out.later K3); clear Z3 V3 G3 K3 Y0_3 Y1_3 U0_3))
    go_upto_region 6 with (first
      | (refine wpList_load_row rfl 24 (.tmp 1) rfl (w.heap.size) rfl 24 _ (0, 0) _ P3.out Try.underlying24 rfl (S.i24 _ _ _ _) ?_)
      | (go_at_call 38; (with_reducible refine (HA3.out _ (HD.out.later B3)).mono ?_); rintro e w4 ⟨A4, c4, b4, o4, rfl, X4, hb4⟩; have Y0_4 := Lib.hid (bkBelow P3.out hb4); have Y1_4 := Lib.hid (bkBelow Ea_3.out hb4); have Y2_4 := Lib.hid (bkBelow Eb_3.out hb4); have U0_4 := Lib.hid (Da_3.out.later hb4); have U1_4 := Lib.hid (Db_3.out.later hb4); have G4 := bdT B3 B3.size hb4; have V4 := Lib.hid X4; have Z4 := Lib.hid (heap_alloc_new w4 (Obj.cells #[Value.string ⟨#[]⟩, Value.slice none 0 0, iv 0, iv 0, iv 0, iv 0, iv 0, iv 0, iv 0, iv 0, iv 0, iv 0, iv 0] 24)))
      | (refine wpList_store_row rfl 24 (.tmp 7) (.tmp 27) rfl (w4.heap.size) (s2.cs A4 N2 c4) rfl rfl 24 _ Z4.out (S.i24 _ _ _ _) (S.sz S.zero s2 none _ 0 0 _ _) (S.one _ _ _ _) ?_; have K4 := below_setRow ((Below.refl w4.heap.size w4).alloc (Nat.le_refl _) (Obj.cells #[Value.string ⟨#[]⟩, Value.slice none 0 0, iv 0, iv 0, iv 0, iv 0, iv 0, iv 0, iv 0, iv 0, iv 0, iv 0, iv 0] 24)) (g := w4.heap.size) (Nat.le_refl _) (s2.cs A4 N2 c4); have Ec_4 := Lib.hid (setRow_heap _ _ _ (s2.cs A4 N2 c4) _ _ Z4.out); have P4 := Lib.hid (bkBelow Y0_4.out K4); have Ea_4 := Lib.hid (bkBelow Y1_4.out K4); have Eb_4 := Lib.hid (bkBelow Y2_4.out K4); have Da_4 := Lib.hid (U0_4.out.later K4); have Db_4 := Lib.hid (U1_4.out.later K4); have B4 := bdT G4 G4.size K4; have Dc_4 := Lib.hid (V4.out.later K4); clear Z4 V4 G4 K4 Y0_4 Y1_4 Y2_4 U0_4 U1_4))
    go_upto_region 7 with (first
      | (refine wpList_load_row rfl 24 (.tmp 1) rfl (w.heap.size) rfl 24 _ (0, 0) _ P4.out Try.underlying24 rfl (S.i24 _ _ _ _) ?_)
      | (go_at_call 39; (with_reducible refine (HA4.out _ (HD.out.later B4)).mono ?_); rintro e w5 ⟨A5, c5, b5, o5, rfl, X5, hb5⟩; have Y0_5 := Lib.hid (bkBelow P4.out hb5); have Y1_5 := Lib.hid (bkBelow Ea_4.out hb5); have Y2_5 := Lib.hid (bkBelow Eb_4.out hb5); have Y3_5 := Lib.hid (bkBelow Ec_4.out hb5); have U0_5 := Lib.hid (Da_4.out.later hb5); have U1_5 := Lib.hid (Db_4.out.later hb5); have U2_5 := Lib.hid (Dc_4.out.later hb5); have G5 := bdT B4 B4.size hb5; have V5 := Lib.hid X5; have Z5 := Lib.hid (heap_alloc_new w5 (Obj.cells #[Value.string ⟨#[]⟩, Value.slice none 0 0, iv 0, iv 0, iv 0, iv 0, iv 0, iv 0, iv 0, iv 0, iv 0, iv 0, iv 0] 24)))
      | (refine wpList_store_row rfl 24 (.tmp 9) (.tmp 32) rfl (w5.heap.size) (s2.cs A5 N2 c5) rfl rfl 24 _ Z5.out (S.i24 _ _ _ _) (S.sz S.zero s2 none _ 0 0 _ _) (S.one _ _ _ _) ?_; have K5 := below_setRow ((Below.refl w5.heap.size w5).alloc (Nat.le_refl _) (Obj.cells #[Value.string ⟨#[]⟩, Value.slice none 0 0, iv 0, iv 0, iv 0, iv 0, iv 0, iv 0, iv 0, iv 0, iv 0, iv 0, iv 0] 24)) (g := w5.heap.size) (Nat.le_refl _) (s2.cs A5 N2 c5); have Ed_5 := Lib.hid (setRow_heap _ _ _ (s2.cs A5 N2 c5) _ _ Z5.out); have P5 := Lib.hid (bkBelow Y0_5.out K5); have Ea_5 := Lib.hid (bkBelow Y1_5.out K5); have Eb_5 := Lib.hid (bkBelow Y2_5.out K5); have Ec_5 := Lib.hid (bkBelow Y3_5.out K5); have Da_5 := Lib.hid (U0_5.out.later K5); have Db_5 := Lib.hid (U1_5.out.later K5); have Dc_5 := Lib.hid (U2_5.out.later K5); have B5 := bdT G5 G5.size K5; have Dd_5 := Lib.hid (V5.out.later K5); clear Z5 V5 G5 K5 Y0_5 Y1_5 Y2_5 Y3_5 U0_5 U1_5 U2_5))
    go_wp2_with (first
      | (refine wpList_load_row rfl 24 (.tmp 3) rfl (w2.heap.size) rfl 24 _ (0, 0) _ Ea_5.out Try.underlying24 rfl (S.i24 _ _ _ _) ?_)
      | (refine wpList_load_row rfl 24 (.tmp 5) rfl (w3.heap.size) rfl 24 _ (0, 0) _ Eb_5.out Try.underlying24 rfl (S.i24 _ _ _ _) ?_)
      | (go_at_call 18; (with_reducible refine (same_gen s1 A2 A3 N1 c2 c3 b2 o2 b3 o3 Q1 e1 HE1.out.1 HE1.out.2 _ Da_5.out Db_5.out).mono ?_); rintro e w6 ⟨rfl, hb6⟩; have B6 := bdT B5 B5.size hb6; have Ec_6 := Lib.hid (bkBelow Ec_5.out hb6); have Ed_6 := Lib.hid (bkBelow Ed_5.out hb6); have Dc_6 := Lib.hid (Dc_5.out.later hb6); have Dd_6 := Lib.hid (Dd_5.out.later hb6))
      | (refine gdOn (by rfl) ?_; refine wpList_load_row rfl 24 (.tmp 7) rfl (w4.heap.size) rfl 24 _ (0, 0) _ Ec_6.out Try.underlying24 rfl (S.i24 _ _ _ _) ?_)
      | (refine gdOn (by rfl) ?_; refine wpList_load_row rfl 24 (.tmp 9) rfl (w5.heap.size) rfl 24 _ (0, 0) _ Ed_6.out Try.underlying24 rfl (S.i24 _ _ _ _) ?_)
      | (go_at_call 18; (with_reducible refine (same_gen s2 A4 A5 N2 c4 c5 b4 o4 b5 o5 Q2 e2 HE2.out.1 HE2.out.2 _ Dc_6.out Dd_6.out).mono ?_); rintro e w7 ⟨rfl, hb7⟩; have B7 := bdT B6 B6.size hb7))
    go_ret
    exact ⟨rfl, B7⟩
  · have ta : decide (n ≤ 5000 ∧ s.nm.size ≤ 100) = false := decide_eq_false ha
    clear hA ha
    go_enter Try.func11, Try.ntmps11
    go_wp2_with (first
      | (refine wpList_load_row rfl 24 (.tmp 1) rfl (w.heap.size) rfl 24 _ (0, 0) _ P0.out Try.underlying24 rfl (S.i24 _ _ _ _) ?_)
      | (go_at_call 15; (with_reducible refine (tame_any s A n c _).mono ?_); rintro e w1 ⟨rfl, hb1⟩; have P1 := Lib.hid (bkBelow P0.out hb1); have B1 := bdT hB0 hB0.size hb1; simp only [ta]))
    go_ret
    exact ⟨rfl, B1⟩
theorem level_law (s : S) (A : Option Addr) (n c : Nat) (zs : List Int) (w : World) (h1 : ((A = none ∧ n = 0 ∧ c = 0 ∧ zs = []) ∨ ∃ x, A = some x ∧ n ≤ c ∧ c ≤ maxLen ∧ zs.length = c ∧ (∀ i, i < zs.length → w.cell? (x.add i) = some (.int .i64 (zs.getD i 0))) ∧ ∀ n ∈ zs, (Lit.int .i64 n).wf = true)) :
    Calls Try.prog 11 #[.agg (s.cs A n c)] w fun e w' => e = .returned (.bool true) ∧ Below w.heap.size w w' := by
  obtain ⟨k1, b, o, d1⟩ := dataOf h1
  exact levellaw_any s A n c b o _ k1 w d1
end Go.Proofs.Ytejnhhjldddbdaa.TX

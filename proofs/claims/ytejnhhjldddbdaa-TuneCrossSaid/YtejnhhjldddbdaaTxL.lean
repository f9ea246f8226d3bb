/- The law on a sample whose loop is faded into what stands before it. -/
import Derived.Test.YtejnhhjldddbdaaTxK
namespace Go.Proofs.Ytejnhhjldddbdaa.TX
open Go.RowKit Go.Proofs.YtejnhhjldddbdaaW.PrintLast
set_option linter.unusedVariables false
set_option linter.unusedSimpArgs false
theorem lp_one {x y n : Int} (h : Pure.lp 1 x y n = true) : 0 ≤ x ∧ x < y ∧ y ≤ n := by
  unfold Pure.lp PG.sample_loopOK.f at h
  rw [if_neg (by omega), if_pos rfl] at h
  by_cases h0 : 0 ≤ x
  · rw [if_pos h0] at h
    by_cases h1 : x < y
    · rw [if_pos h1] at h
      have h2 : decide (y ≤ n) = true := h
      exact ⟨h0, h1, of_decide_eq_true h2⟩
    · rw [if_neg h1] at h
      cases h
  · rw [if_neg h0] at h
    cases h
theorem cross_answers (s : S) (A : Option Addr) (n c b o : Nat) (xs : Nat → Int) (hn : n ≤ 5000) (hc : n ≤ c) (t : Int) : ∃ (s0 : S) (N : Nat) (F : Nat → Int) (err : Int), (err = 0 ∨ err ≠ 0 ∧ s0 = S.zero ∧ N = 0) ∧ N ≤ 1000000 ∧
      (∀ w, DataAt w A n b o xs → Calls Try.prog 29 #[.agg (s.cs A n c), iv t] w fun e w' => ∃ A c b o, e = .returned (.tuple #[.agg (s0.cs A N c), iv err]) ∧ DataAt w' A N b o F ∧ Below w.heap.size w w') ∧
      ∀ w, DataAt w A n b o xs → Calls Try.prog 30 #[.agg (s.cs A n c), iv t] w fun e w' => ∃ A c b o, e = .returned (.tuple #[.agg (s0.cs A N c), iv err]) ∧ DataAt w' A N b o F ∧ Below w.heap.size w w' := by
  by_cases va : vS s n xs = true
  · by_cases h7 : s.a7 = 1
    · obtain ⟨f1, -, ⟨h, hbt, hx⟩, hl⟩ := vS_facts va
      rw [h7] at hl
      obtain ⟨g1, g2, g3⟩ := lp_one hl
      obtain ⟨st, hst⟩ := Int.eq_ofNat_of_zero_le g1
      obtain ⟨en, hen⟩ := Int.eq_ofNat_of_zero_le (show 0 ≤ s.a9 by omega)
      by_cases ht : t < 1 ∨ (if (en : Int) - (st : Int) < (st : Int) then (en : Int) - (st : Int) else (st : Int)) < t
      · exact ⟨S.zero, 0, fun _ => 0, 5, .inr ⟨by omega, rfl, rfl⟩, by omega, answers_err (M := fun w => DataAt w A n b o xs) (fun w hw => cross_range s A n c b o xs w hw (by omega) hc t va h7 st en hst hen (by omega) (by omega) (by omega) ht), answers_err (M := fun w => DataAt w A n b o xs) (fun w hw => rcross_range s A n c b o xs w hw (by omega) hc t va h7 st en hst hen (by omega) (by omega) (by omega) ht)⟩
      · obtain ⟨u, rfl⟩ := Int.eq_ofNat_of_zero_le (show 0 ≤ t by omega)
        have ht1 : (1 : Int) ≤ (u : Int) := by omega
        have ht2 : (u : Int) ≤ (if (en : Int) - (st : Int) < (st : Int) then (en : Int) - (st : Int) else (st : Int)) := by
          rcases Int.lt_or_le (if (en : Int) - (st : Int) < (st : Int) then (en : Int) - (st : Int) else (st : Int)) (u : Int) with h' | h'
          · exact absurd (.inr h') ht
          · exact h'
        exact ⟨s, n, _, 0, .inl rfl, by omega, fun w hw => cross_ok s A n c b o xs w hw (by omega) hc h hbt hx va h7 st en hst hen (by omega) (by omega) (by omega) u ht1 ht2, fun w hw => rcross_ok s A n c b o xs w hw (by omega) hc h hbt hx va h7 st en hst hen (by omega) (by omega) (by omega) u ht1 ht2⟩
    · exact ⟨S.zero, 0, fun _ => 0, 6, .inr ⟨by omega, rfl, rfl⟩, by omega, answers_err (M := fun w => DataAt w A n b o xs) (fun w hw => cross_kind s A n c b o xs w hw (by omega) hc t va h7), answers_err (M := fun w => DataAt w A n b o xs) (fun w hw => rcross_kind s A n c b o xs w hw (by omega) hc t va h7)⟩
  · exact ⟨S.zero, 0, fun _ => 0, 1, .inr ⟨by omega, rfl, rfl⟩, by omega, answers_err (M := fun w => DataAt w A n b o xs) (fun w hw => cross_bad s A n c b o xs w hw (by omega) hc t (vS_no va)), answers_err (M := fun w => DataAt w A n b o xs) (fun w hw => rcross_bad s A n c b o xs w hw (by omega) hc t (vS_no va))⟩
set_option maxHeartbeats 16000000 in
set_option maxRecDepth 100000 in
theorem crosslaw_any (s : S) (A : Option Addr) (n c b o : Nat) (xs : Nat → Int) (hc : n ≤ c) (t : Int) (w : World) (hA : DataAt w A n b o xs) :
    Calls Try.prog 8 #[.agg (s.cs A n c), iv t] w fun e w' => e = .returned (.bool true) ∧ Below w.heap.size w w' := by
  have hB0 : Below w.heap.size w (w.alloc (Obj.cells (s.cs A n c) 24)) := (Below.refl _ _).alloc (Nat.le_refl _) _
  have P0 := Lib.hid (heap_alloc_new w (Obj.cells (s.cs A n c) 24))
  by_cases ha : n ≤ 5000 ∧ s.nm.size ≤ 100
  · have ta : decide (n ≤ 5000 ∧ s.nm.size ≤ 100) = true := decide_eq_true ha
    obtain ⟨s1, N1, Q1, e1, he1, hN1, a1, a2⟩ := cross_answers s A n c b o xs ha.1 hc t
    have HD := Lib.hid hA
    have HA1 := Lib.hid a1
    have HA2 := Lib.hid a2
    have HE1 := Lib.hid (And.intro he1 hN1)
    clear hA a1 a2 he1 hN1 ha
    go_enter Try.func8, Try.ntmps8
    go_upto_region 3 with (first
      | (refine wpList_load_row rfl 24 (.tmp 2) rfl (w.heap.size) rfl 24 _ (0, 0) _ P0.out Try.underlying24 rfl (S.i24 _ _ _ _) ?_)
      | (go_at_call 15; (with_reducible refine (tame_any s A n c _).mono ?_); rintro e w1 ⟨rfl, hb1⟩; have P1 := Lib.hid (bkBelow P0.out hb1); have B1 := bdT hB0 hB0.size hb1; simp only [ta]))
    go_upto_region 4 with (first
      | (refine wpList_load_row rfl 24 (.tmp 2) rfl (w.heap.size) rfl 24 _ (0, 0) _ P1.out Try.underlying24 rfl (S.i24 _ _ _ _) ?_)
      | (go_at_call 29; (with_reducible refine (HA1.out _ (HD.out.later B1)).mono ?_); rintro e w2 ⟨A2, c2, b2, o2, rfl, X2, hb2⟩; have Y0_2 := Lib.hid (bkBelow P1.out hb2); have G2 := bdT B1 B1.size hb2; have V2 := Lib.hid X2; have Z2 := Lib.hid (heap_alloc_new w2 (Obj.cells #[Value.string ⟨#[]⟩, Value.slice none 0 0, iv 0, iv 0, iv 0, iv 0, iv 0, iv 0, iv 0, iv 0, iv 0, iv 0, iv 0] 24)))
      | (refine wpList_store_row rfl 24 (.tmp 5) (.tmp 16) rfl (w2.heap.size) (s1.cs A2 N1 c2) rfl rfl 24 _ Z2.out (S.i24 _ _ _ _) (S.sz S.zero s1 none _ 0 0 _ _) (S.one _ _ _ _) ?_; have K2 := below_setRow ((Below.refl w2.heap.size w2).alloc (Nat.le_refl _) (Obj.cells #[Value.string ⟨#[]⟩, Value.slice none 0 0, iv 0, iv 0, iv 0, iv 0, iv 0, iv 0, iv 0, iv 0, iv 0, iv 0, iv 0] 24)) (g := w2.heap.size) (Nat.le_refl _) (s1.cs A2 N1 c2); have Ea_2 := Lib.hid (setRow_heap _ _ _ (s1.cs A2 N1 c2) _ _ Z2.out); have P2 := Lib.hid (bkBelow Y0_2.out K2); have B2 := bdT G2 G2.size K2; have Da_2 := Lib.hid (V2.out.later K2); clear Z2 V2 G2 K2 Y0_2 ))
    go_upto_region 5 with (first
      | (refine wpList_load_row rfl 24 (.tmp 2) rfl (w.heap.size) rfl 24 _ (0, 0) _ P2.out Try.underlying24 rfl (S.i24 _ _ _ _) ?_)
      | (go_at_call 30; (with_reducible refine (HA2.out _ (HD.out.later B2)).mono ?_); rintro e w3 ⟨A3, c3, b3, o3, rfl, X3, hb3⟩; have Y0_3 := Lib.hid (bkBelow P2.out hb3); have Y1_3 := Lib.hid (bkBelow Ea_2.out hb3); have U0_3 := Lib.hid (Da_2.out.later hb3); have G3 := bdT B2 B2.size hb3; have V3 := Lib.hid X3; have Z3 := Lib.hid (heap_alloc_new w3 (Obj.cells #[Value.string ⟨#[]⟩, Value.slice none 0 0, iv 0, iv 0, iv 0, iv 0, iv 0, iv 0, iv 0, iv 0, iv 0, iv 0, iv 0] 24)))
      | (refine wpList_store_row rfl 24 (.tmp 7) (.tmp 22) rfl (w3.heap.size) (s1.cs A3 N1 c3) rfl rfl 24 _ Z3.out (S.i24 _ _ _ _) (S.sz S.zero s1 none _ 0 0 _ _) (S.one _ _ _ _) ?_; have K3 := below_setRow ((Below.refl w3.heap.size w3).alloc (Nat.le_refl _) (Obj.cells #[Value.string ⟨#[]⟩, Value.slice none 0 0, iv 0, iv 0, iv 0, iv 0, iv 0, iv 0, iv 0, iv 0, iv 0, iv 0, iv 0] 24)) (g := w3.heap.size) (Nat.le_refl _) (s1.cs A3 N1 c3); have Eb_3 := Lib.hid (setRow_heap _ _ _ (s1.cs A3 N1 c3) _ _ Z3.out); have P3 := Lib.hid (bkBelow Y0_3.out K3); have Ea_3 := Lib.hid (bkBelow Y1_3.out K3); have Da_3 := Lib.hid (U0_3.out.later K3); have B3 := bdT G3 G3.size K3; have Db_3 := Lib.hid (V3.out.later K3); clear Z3 V3 G3 K3 Y0_3 Y1_3 U0_3))
    go_wp2_with (first
      | (refine wpList_load_row rfl 24 (.tmp 5) rfl (w2.heap.size) rfl 24 _ (0, 0) _ Ea_3.out Try.underlying24 rfl (S.i24 _ _ _ _) ?_)
      | (refine wpList_load_row rfl 24 (.tmp 7) rfl (w3.heap.size) rfl 24 _ (0, 0) _ Eb_3.out Try.underlying24 rfl (S.i24 _ _ _ _) ?_)
      | (go_at_call 18; (with_reducible refine (same_gen s1 A2 A3 N1 c2 c3 b2 o2 b3 o3 Q1 e1 HE1.out.1 HE1.out.2 _ Da_3.out Db_3.out).mono ?_); rintro e w6 ⟨rfl, hb6⟩; have B6 := bdT B3 B3.size hb6))
    go_ret
    exact ⟨rfl, B6⟩
  · have ta : decide (n ≤ 5000 ∧ s.nm.size ≤ 100) = false := decide_eq_false ha
    clear hA ha
    go_enter Try.func8, Try.ntmps8
    go_wp2_with (first
      | (refine wpList_load_row rfl 24 (.tmp 2) rfl (w.heap.size) rfl 24 _ (0, 0) _ P0.out Try.underlying24 rfl (S.i24 _ _ _ _) ?_)
      | (go_at_call 15; (with_reducible refine (tame_any s A n c _).mono ?_); rintro e w1 ⟨rfl, hb1⟩; have P1 := Lib.hid (bkBelow P0.out hb1); have B1 := bdT hB0 hB0.size hb1; simp only [ta]))
    go_ret
    exact ⟨rfl, B1⟩
theorem cross_law (s : S) (A : Option Addr) (n c : Nat) (zs : List Int) (t : Int) (w : World) (h1 : ((A = none ∧ n = 0 ∧ c = 0 ∧ zs = []) ∨ ∃ x, A = some x ∧ n ≤ c ∧ c ≤ maxLen ∧ zs.length = c ∧ (∀ i, i < zs.length → w.cell? (x.add i) = some (.int .i64 (zs.getD i 0))) ∧ ∀ n ∈ zs, (Lit.int .i64 n).wf = true)) :
    Calls Try.prog 8 #[.agg (s.cs A n c), iv t] w fun e w' => e = .returned (.bool true) ∧ Below w.heap.size w w' := by
  obtain ⟨k1, b, o, d1⟩ := dataOf h1
  exact crosslaw_any s A n c b o _ k1 t w d1
end Go.Proofs.Ytejnhhjldddbdaa.TX

/- The law on the sum of two samples. -/
import Derived.Test.YtejnhhjldddbdaaTxF
namespace Go.Proofs.Ytejnhhjldddbdaa.TX
open Go.RowKit Go.Proofs.YtejnhhjldddbdaaW.PrintLast
set_option linter.unusedVariables false
set_option linter.unusedSimpArgs false
theorem mix_answers (s s' : S) (A D : Option Addr) (n c m d b o b' o' : Nat) (xs ys : Nat → Int) (hn : n ≤ 5000) (hm : m ≤ 5000) (hc : n ≤ c) (hd : m ≤ d) (t : Int) :
    ∃ (s0 : S) (N : Nat) (F : Nat → Int) (err : Int), (err = 0 ∨ err ≠ 0 ∧ s0 = S.zero ∧ N = 0) ∧ N ≤ 1000000 ∧
      Answers 16 #[.agg (s.cs A n c), .agg (s'.cs D m d), iv t] (fun w => DataAt w A n b o xs ∧ DataAt w D m b' o' ys) s0 N F err ∧ Answers 17 #[.agg (s.cs A n c), .agg (s'.cs D m d), iv t] (fun w => DataAt w A n b o xs ∧ DataAt w D m b' o' ys) s0 N F err := by
  have err : ∀ (k : Int), k ≠ 0 → (∀ w, DataAt w A n b o xs ∧ DataAt w D m b' o' ys → Calls Try.prog 16 #[.agg (s.cs A n c), .agg (s'.cs D m d), iv t] w fun e w' => e = .returned (.tuple #[.agg (S.zero.cs none 0 0), iv k]) ∧ Below w.heap.size w w') →
      (∀ w, DataAt w A n b o xs ∧ DataAt w D m b' o' ys → Calls Try.prog 17 #[.agg (s.cs A n c), .agg (s'.cs D m d), iv t] w fun e w' => e = .returned (.tuple #[.agg (S.zero.cs none 0 0), iv k]) ∧ Below w.heap.size w w') →
      ∃ (s0 : S) (N : Nat) (F : Nat → Int) (err : Int), (err = 0 ∨ err ≠ 0 ∧ s0 = S.zero ∧ N = 0) ∧ N ≤ 1000000 ∧
      Answers 16 #[.agg (s.cs A n c), .agg (s'.cs D m d), iv t] (fun w => DataAt w A n b o xs ∧ DataAt w D m b' o' ys) s0 N F err ∧ Answers 17 #[.agg (s.cs A n c), .agg (s'.cs D m d), iv t] (fun w => DataAt w A n b o xs ∧ DataAt w D m b' o' ys) s0 N F err :=
    fun k hk h1 h2 => ⟨S.zero, 0, fun _ => 0, k, .inr ⟨hk, rfl, rfl⟩, by omega, answers_err h1, answers_err h2⟩
  by_cases va : vS s n xs = true
  · by_cases vb : vS s' m ys = true
    · by_cases hb : s'.a2 = s.a2
      · obtain ⟨f1, -, ⟨h, hbt, hx⟩, -⟩ := vS_facts va
        obtain ⟨f2, -, ⟨h', hbt', hy⟩, -⟩ := vS_facts vb
        have hh : h' = h := by
          rcases hbt with ⟨e1, rfl⟩ | ⟨e1, rfl⟩ <;> rcases hbt' with ⟨e2, rfl⟩ | ⟨e2, rfl⟩ <;> first | rfl | (exfalso; omega)
        subst hh
        by_cases ht : t < 0 ∨ (n : Int) < t
        · exact err 5 (by omega) (fun w hw => mix_range s s' A D n c m d b o b' o' xs ys w hw.1 hw.2 (by omega) (by omega) hc hd t va vb hb ht) (fun w hw => rmix_range s s' A D n c m d b o b' o' xs ys w hw.1 hw.2 (by omega) (by omega) hc hd t va vb hb ht)
        · by_cases hN : 4096 < t + m
          · exact err 4 (by omega) (fun w hw => mix_limit s s' A D n c m d b o b' o' xs ys w hw.1 hw.2 (by omega) (by omega) hc hd t va vb hb (by omega) (by omega) hN) (fun w hw => rmix_limit s s' A D n c m d b o b' o' xs ys w hw.1 hw.2 (by omega) (by omega) hc hd t va vb hb (by omega) (by omega) hN)
          · obtain ⟨u, rfl⟩ := Int.eq_ofNat_of_zero_le (by omega : 0 ≤ t)
            by_cases hlt : n < u + m
            · exact ⟨s, u + m, _, 0, .inl rfl, by omega, fun w hw => mix_okA s s' A D n c m d b o b' o' xs ys w hw.1 hw.2 (by omega) (by omega) hc hd u h' hbt hx hy va vb hb (by omega) (by omega) (by omega) (u + m) (by rw [if_pos hlt]) hlt, fun w hw => rmix_okA s s' A D n c m d b o b' o' xs ys w hw.1 hw.2 (by omega) (by omega) hc hd u h' hbt hx hy va vb hb (by omega) (by omega) (by omega) (u + m) (by rw [if_pos hlt]) hlt⟩
            · exact ⟨s, n, _, 0, .inl rfl, by omega, fun w hw => mix_okB s s' A D n c m d b o b' o' xs ys w hw.1 hw.2 (by omega) (by omega) hc hd u h' hbt hx hy va vb hb (by omega) (by omega) (by omega) n (by rw [if_neg hlt]) hlt, fun w hw => rmix_okB s s' A D n c m d b o b' o' xs ys w hw.1 hw.2 (by omega) (by omega) hc hd u h' hbt hx hy va vb hb (by omega) (by omega) (by omega) n (by rw [if_neg hlt]) hlt⟩
      · exact err 1 (by omega) (fun w hw => mix_bad3 s s' A D n c m d b o b' o' xs ys w hw.1 hw.2 (by omega) (by omega) hc hd t va vb hb) (fun w hw => rmix_bad3 s s' A D n c m d b o b' o' xs ys w hw.1 hw.2 (by omega) (by omega) hc hd t va vb hb)
    · exact err 1 (by omega) (fun w hw => mix_bad2 s s' A D n c m d b o b' o' xs ys w hw.1 hw.2 (by omega) (by omega) hc hd t va (vS_no vb)) (fun w hw => rmix_bad2 s s' A D n c m d b o b' o' xs ys w hw.1 hw.2 (by omega) (by omega) hc hd t va (vS_no vb))
  · exact err 1 (by omega) (fun w hw => mix_bad1 s s' A D n c m d b o b' o' xs ys w hw.1 hw.2 (by omega) (by omega) hc hd t (vS_no va)) (fun w hw => rmix_bad1 s s' A D n c m d b o b' o' xs ys w hw.1 hw.2 (by omega) (by omega) hc hd t (vS_no va))
set_option maxHeartbeats 16000000 in
set_option maxRecDepth 100000 in
theorem mixlaw_any (s s' : S) (A D : Option Addr) (n c m d b o b' o' : Nat) (xs ys : Nat → Int) (hc : n ≤ c) (hd : m ≤ d) (t : Int) (w : World) (hA : DataAt w A n b o xs) (hD : DataAt w D m b' o' ys) :
    Calls Try.prog 3 #[.agg (s.cs A n c), .agg (s'.cs D m d), iv t] w fun e w' => e = .returned (.bool true) ∧ Below w.heap.size w w' := by
  have hB0 : Below w.heap.size w ((w.alloc (Obj.cells (s.cs A n c) 24)).alloc (Obj.cells (s'.cs D m d) 24)) := ((Below.refl _ _).alloc (Nat.le_refl _) _).alloc (by simp) _
  have P0 := Lib.hid (heap_alloc2_old w (Obj.cells (s.cs A n c) 24) (Obj.cells (s'.cs D m d) 24))
  have Q0 := Lib.hid (heap_alloc2_new w (Obj.cells (s.cs A n c) 24) (Obj.cells (s'.cs D m d) 24))
  by_cases ha : n ≤ 5000 ∧ s.nm.size ≤ 100
  · have ta : decide (n ≤ 5000 ∧ s.nm.size ≤ 100) = true := decide_eq_true ha
    by_cases hb : m ≤ 5000 ∧ s'.nm.size ≤ 100
    · have tb : decide (m ≤ 5000 ∧ s'.nm.size ≤ 100) = true := decide_eq_true hb
      obtain ⟨s0, N, F, err, he, hN, An, Bn⟩ := mix_answers s s' A D n c m d b o b' o' xs ys ha.1 hb.1 hc hd t
      have HD := Lib.hid (And.intro hA hD)
      have HAn := Lib.hid (show ∀ w, DataAt w A n b o xs ∧ DataAt w D m b' o' ys → Calls Try.prog 16 #[.agg (s.cs A n c), .agg (s'.cs D m d), iv t] w fun e w' => ∃ A c b o, e = .returned (.tuple #[.agg (s0.cs A N c), iv err]) ∧ DataAt w' A N b o F ∧ Below w.heap.size w w' from An)
      have HBn := Lib.hid (show ∀ w, DataAt w A n b o xs ∧ DataAt w D m b' o' ys → Calls Try.prog 17 #[.agg (s.cs A n c), .agg (s'.cs D m d), iv t] w fun e w' => ∃ A c b o, e = .returned (.tuple #[.agg (s0.cs A N c), iv err]) ∧ DataAt w' A N b o F ∧ Below w.heap.size w w' from Bn)
      have HEr := Lib.hid he
      have HN := Lib.hid hN
      clear hA hD An Bn he hN ha hb
      go_enter Try.func3, Try.ntmps3
      go_upto_region 3 with (first
        | (refine wpList_load_row rfl 24 (.tmp 3) rfl (w.heap.size) rfl 24 _ (0, 0) _ P0.out Try.underlying24 rfl (S.i24 _ _ _ _) ?_)
        | (go_at_call 15; (with_reducible refine (tame_any s A n c _).mono ?_); rintro e w1 ⟨rfl, hb1⟩; have P1 := Lib.hid (bkBelow P0.out hb1); have Q1 := Lib.hid (bkBelow Q0.out hb1); have B1 := bdT hB0 hB0.size hb1; simp only [ta])
        | (refine gdOn (by rfl) ?_; refine wpList_load_row rfl 24 (.tmp 4) rfl (w.heap.size + 1) rfl 24 _ (0, 0) _ Q1.out Try.underlying24 rfl (S.i24 _ _ _ _) ?_)
        | (go_at_call 15; (with_reducible refine (tame_any s' D m d _).mono ?_); rintro e w2 ⟨rfl, hb2⟩; have P2 := Lib.hid (bkBelow P1.out hb2); have Q2 := Lib.hid (bkBelow Q1.out hb2); have B2 := bdT B1 B1.size hb2; simp only [tb]))
      go_upto_region 4 with (first
        | (refine wpList_load_row rfl 24 (.tmp 3) rfl (w.heap.size) rfl 24 _ (0, 0) _ P2.out Try.underlying24 rfl (S.i24 _ _ _ _) ?_)
        | (refine wpList_load_row rfl 24 (.tmp 4) rfl (w.heap.size + 1) rfl 24 _ (0, 0) _ Q2.out Try.underlying24 rfl (S.i24 _ _ _ _) ?_)
        | (go_at_call 16; (with_reducible refine (HAn.out _ ⟨HD.out.1.later B2, HD.out.2.later B2⟩).mono ?_); rintro e w3 ⟨A1, c1, b1, o1, rfl, D3, hb3⟩; have P3 := Lib.hid (bkBelow P2.out hb3); have Q3 := Lib.hid (bkBelow Q2.out hb3); have B3 := bdT B2 B2.size hb3; have Z3 := Lib.hid (heap_alloc_new w3 (Obj.cells #[Value.string ⟨#[]⟩, Value.slice none 0 0, iv 0, iv 0, iv 0, iv 0, iv 0, iv 0, iv 0, iv 0, iv 0, iv 0, iv 0] 24)); have N3 := Lib.hid D3)
        | (refine wpList_store_row rfl 24 (.tmp 7) (.tmp 24) rfl (w3.heap.size) (s0.cs A1 N c1) rfl rfl 24 _ Z3.out (S.i24 _ _ _ _) (S.sz S.zero s0 none _ 0 0 _ _) (S.one _ _ _ _) ?_; have K3 := below_setRow ((Below.refl w3.heap.size w3).alloc (Nat.le_refl _) (Obj.cells #[Value.string ⟨#[]⟩, Value.slice none 0 0, iv 0, iv 0, iv 0, iv 0, iv 0, iv 0, iv 0, iv 0, iv 0, iv 0, iv 0] 24)) (g := w3.heap.size) (Nat.le_refl _) (s0.cs A1 N c1); have E3 := Lib.hid (setRow_heap _ _ _ (s0.cs A1 N c1) _ _ Z3.out); have P4 := Lib.hid (bkBelow P3.out K3); have Q4 := Lib.hid (bkBelow Q3.out K3); have B4 := bdT B3 B3.size K3; have N4 := Lib.hid (N3.out.later K3); clear Z3 P3 Q3 N3))
      go_upto_region 5 with (first
        | (refine wpList_load_row rfl 24 (.tmp 3) rfl (w.heap.size) rfl 24 _ (0, 0) _ P4.out Try.underlying24 rfl (S.i24 _ _ _ _) ?_)
        | (refine wpList_load_row rfl 24 (.tmp 4) rfl (w.heap.size + 1) rfl 24 _ (0, 0) _ Q4.out Try.underlying24 rfl (S.i24 _ _ _ _) ?_)
        | (go_at_call 17; (with_reducible refine (HBn.out _ ⟨HD.out.1.later B4, HD.out.2.later B4⟩).mono ?_); rintro e w5 ⟨A2, c2, b2, o2, rfl, D5, hb5⟩; have E5 := Lib.hid (bkBelow E3.out hb5); have N5 := Lib.hid (N4.out.later hb5); have B5 := bdT B4 B4.size hb5; have Z5 := Lib.hid (heap_alloc_new w5 (Obj.cells #[Value.string ⟨#[]⟩, Value.slice none 0 0, iv 0, iv 0, iv 0, iv 0, iv 0, iv 0, iv 0, iv 0, iv 0, iv 0, iv 0] 24)); have M5 := Lib.hid D5)
        | (refine wpList_store_row rfl 24 (.tmp 9) (.tmp 31) rfl (w5.heap.size) (s0.cs A2 N c2) rfl rfl 24 _ Z5.out (S.i24 _ _ _ _) (S.sz S.zero s0 none _ 0 0 _ _) (S.one _ _ _ _) ?_; have K5 := below_setRow ((Below.refl w5.heap.size w5).alloc (Nat.le_refl _) (Obj.cells #[Value.string ⟨#[]⟩, Value.slice none 0 0, iv 0, iv 0, iv 0, iv 0, iv 0, iv 0, iv 0, iv 0, iv 0, iv 0, iv 0] 24)) (g := w5.heap.size) (Nat.le_refl _) (s0.cs A2 N c2); have G6 := Lib.hid (setRow_heap _ _ _ (s0.cs A2 N c2) _ _ Z5.out); have E6 := Lib.hid (bkBelow E5.out K5); have B6 := bdT B5 B5.size K5; have N6 := Lib.hid (N5.out.later K5); have M6 := Lib.hid (M5.out.later K5); clear Z5 E5 N5 M5))
      go_wp2_with (first
        | (refine wpList_load_row rfl 24 (.tmp 7) rfl (w3.heap.size) rfl 24 _ (0, 0) _ E6.out Try.underlying24 rfl (S.i24 _ _ _ _) ?_)
        | (refine wpList_load_row rfl 24 (.tmp 9) rfl (w5.heap.size) rfl 24 _ (0, 0) _ G6.out Try.underlying24 rfl (S.i24 _ _ _ _) ?_)
        | (go_at_call 18; (with_reducible refine (same_gen s0 A1 A2 N c1 c2 b1 o1 b2 o2 F err HEr.out HN.out _ N6.out M6.out).mono ?_); rintro e w7 ⟨rfl, hb7⟩; have B7 := bdT B6 B6.size hb7))
      go_ret
      exact ⟨rfl, B7⟩
    · have tb : decide (m ≤ 5000 ∧ s'.nm.size ≤ 100) = false := decide_eq_false hb
      clear hA hD ha hb
      go_enter Try.func3, Try.ntmps3
      go_wp2_with (first
        | (refine wpList_load_row rfl 24 (.tmp 3) rfl (w.heap.size) rfl 24 _ (0, 0) _ P0.out Try.underlying24 rfl (S.i24 _ _ _ _) ?_)
        | (go_at_call 15; (with_reducible refine (tame_any s A n c _).mono ?_); rintro e w1 ⟨rfl, hb1⟩; have P1 := Lib.hid (bkBelow P0.out hb1); have Q1 := Lib.hid (bkBelow Q0.out hb1); have B1 := bdT hB0 hB0.size hb1; simp only [ta])
        | (refine gdOn (by rfl) ?_; refine wpList_load_row rfl 24 (.tmp 4) rfl (w.heap.size + 1) rfl 24 _ (0, 0) _ Q1.out Try.underlying24 rfl (S.i24 _ _ _ _) ?_)
        | (go_at_call 15; (with_reducible refine (tame_any s' D m d _).mono ?_); rintro e w2 ⟨rfl, hb2⟩; have P2 := Lib.hid (bkBelow P1.out hb2); have Q2 := Lib.hid (bkBelow Q1.out hb2); have B2 := bdT B1 B1.size hb2; simp only [tb]))
      go_ret
      exact ⟨rfl, B2⟩
  · have ta : decide (n ≤ 5000 ∧ s.nm.size ≤ 100) = false := decide_eq_false ha
    clear hA hD ha
    go_enter Try.func3, Try.ntmps3
    go_wp2_with (first
      | (refine wpList_load_row rfl 24 (.tmp 3) rfl (w.heap.size) rfl 24 _ (0, 0) _ P0.out Try.underlying24 rfl (S.i24 _ _ _ _) ?_)
      | (go_at_call 15; (with_reducible refine (tame_any s A n c _).mono ?_); rintro e w1 ⟨rfl, hb1⟩; have P1 := Lib.hid (bkBelow P0.out hb1); have Q1 := Lib.hid (bkBelow Q0.out hb1); have B1 := bdT hB0 hB0.size hb1; simp only [ta]))
    go_ret
    exact ⟨rfl, B1⟩
theorem addPlain {w : World} {a : Addr} {v : Value} (i : Nat) (h : w.cell? (a.add i) = some v) : a.add i = ⟨a.block, a.off + i, none⟩ := by
  have hs := World.cell?_spot h
  obtain ⟨b, o, s⟩ := a
  unfold Addr.add at hs ⊢
  split <;> simp_all
theorem plainZero {w : World} {a : Addr} {v : Value} (h : w.cell? (a.add 0) = some v) : a = ⟨a.block, a.off, none⟩ := by
  have hs := World.cell?_spot h
  obtain ⟨b, o, s⟩ := a
  simp [Addr.add] at hs
  rw [hs]
theorem dataOf {w : World} {A : Option Addr} {len cap : Nat} {zs : List Int} (h : (A = none ∧ len = 0 ∧ cap = 0 ∧ zs = []) ∨ ∃ x, A = some x ∧ len ≤ cap ∧ cap ≤ maxLen ∧ zs.length = cap ∧ (∀ i, i < zs.length → w.cell? (x.add i) = some (.int .i64 (zs.getD i 0))) ∧ ∀ n ∈ zs, (Lit.int .i64 n).wf = true) :
    len ≤ cap ∧ ∃ b o, DataAt w A len b o (fun i => zs.getD i 0) := by
  rcases h with ⟨rfl, rfl, rfl, rfl⟩ | ⟨x, rfl, hl, _, hz, hc, _⟩
  · exact ⟨Nat.le_refl _, 0, 0, fun h => by omega, fun h => by omega, fun i h => by omega⟩
  · refine ⟨hl, x.block, x.off, fun hp => congrArg some (plainZero (hc 0 (by omega))), fun hp => ?_, fun i hi => ?_⟩
    · have h0 := hc 0 (by omega)
      have := World.block_lt_of_cell? _ _ h0
      rwa [addPlain 0 h0] at this
    · have h0 := hc i (by omega)
      rwa [addPlain i h0] at h0
theorem mix_law (s s' : S) (A D : Option Addr) (n c m d : Nat) (zs ys : List Int) (t : Int) (w : World)
    (h1 : (A = none ∧ n = 0 ∧ c = 0 ∧ zs = []) ∨ ∃ x, A = some x ∧ n ≤ c ∧ c ≤ maxLen ∧ zs.length = c ∧ (∀ i, i < zs.length → w.cell? (x.add i) = some (.int .i64 (zs.getD i 0))) ∧ ∀ n ∈ zs, (Lit.int .i64 n).wf = true)
    (h2 : (D = none ∧ m = 0 ∧ d = 0 ∧ ys = []) ∨ ∃ x, D = some x ∧ m ≤ d ∧ d ≤ maxLen ∧ ys.length = d ∧ (∀ i, i < ys.length → w.cell? (x.add i) = some (.int .i64 (ys.getD i 0))) ∧ ∀ n ∈ ys, (Lit.int .i64 n).wf = true) :
    Calls Try.prog 3 #[.agg (s.cs A n c), .agg (s'.cs D m d), iv t] w fun e w' => e = .returned (.bool true) ∧ Below w.heap.size w w' := by
  obtain ⟨k1, b, o, d1⟩ := dataOf h1
  obtain ⟨k2, b', o', d2⟩ := dataOf h2
  exact mixlaw_any s s' A D n c m d b o b' o' _ _ k1 k2 t w d1 d2
end Go.Proofs.Ytejnhhjldddbdaa.TX

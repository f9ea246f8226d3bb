/- The law on a sample into which a line is drawn. -/
import Derived.Test.YtejnhhjldddbdaaTxP
import Derived.Deep.MidRow
namespace Go.Proofs.Ytejnhhjldddbdaa.TX
open Go.RowKit Go.Proofs.YtejnhhjldddbdaaW.PrintLast
set_option linter.unusedVariables false
set_option linter.unusedSimpArgs false
theorem draw_answers (s : S) (A : Option Addr) (n c b o : Nat) (xs : Nat → Int) (hn : n ≤ 5000) (hc : n ≤ c) (fr tz fi la : Int) : ∃ (s0 : S) (N : Nat) (F : Nat → Int) (err : Int), (err = 0 ∨ err ≠ 0 ∧ s0 = S.zero ∧ N = 0) ∧ N ≤ 1000000 ∧
      (∀ w, DataAt w A n b o xs → Calls Try.prog 19 #[.agg (s.cs A n c), iv fr, iv tz, iv fi, iv la] w fun e w' => ∃ A c b o, e = .returned (.tuple #[.agg (s0.cs A N c), iv err]) ∧ DataAt w' A N b o F ∧ Below w.heap.size w w') ∧
      ∀ w, DataAt w A n b o xs → Calls Try.prog 20 #[.agg (s.cs A n c), iv fr, iv tz, iv fi, iv la] w fun e w' => ∃ A c b o, e = .returned (.tuple #[.agg (s0.cs A N c), iv err]) ∧ DataAt w' A N b o F ∧ Below w.heap.size w w' := by
  by_cases va : vS s n xs = true
  · obtain ⟨f1, -, ⟨h, hbt, hx⟩, -⟩ := vS_facts va
    by_cases a1 : fr < 0
    · exact ⟨S.zero, 0, fun _ => 0, 5, .inr ⟨by omega, rfl, rfl⟩, by omega, answers_err (M := fun w => DataAt w A n b o xs) (fun w hw => draw_e1 s A n c b o xs w hw (by omega) hc fr tz fi la h hbt va a1), answers_err (M := fun w => DataAt w A n b o xs) (fun w hw => rdraw_e1 s A n c b o xs w hw (by omega) hc fr tz fi la h hbt va (.inl a1))⟩
    by_cases a2 : fi < fr
    · by_cases a3 : (n : Int) - 1 < fr
      · exact ⟨S.zero, 0, fun _ => 0, 5, .inr ⟨by omega, rfl, rfl⟩, by omega, answers_err (M := fun w => DataAt w A n b o xs) (fun w hw => draw_e2 s A n c b o xs w hw (by omega) hc fr tz fi la h hbt va (by omega) a2), answers_err (M := fun w => DataAt w A n b o xs) (fun w hw => rdraw_e1 s A n c b o xs w hw (by omega) hc fr tz fi la h hbt va (.inr a3))⟩
      · exact ⟨S.zero, 0, fun _ => 0, 5, .inr ⟨by omega, rfl, rfl⟩, by omega, answers_err (M := fun w => DataAt w A n b o xs) (fun w hw => draw_e2 s A n c b o xs w hw (by omega) hc fr tz fi la h hbt va (by omega) a2), answers_err (M := fun w => DataAt w A n b o xs) (fun w hw => rdraw_e2 s A n c b o xs w hw (by omega) hc fr tz fi la h hbt va (by omega) (.inl a2))⟩
    by_cases a3 : (n : Int) ≤ fi
    · by_cases a4 : (n : Int) - 1 < fr
      · exact ⟨S.zero, 0, fun _ => 0, 5, .inr ⟨by omega, rfl, rfl⟩, by omega, answers_err (M := fun w => DataAt w A n b o xs) (fun w hw => draw_e3 s A n c b o xs w hw (by omega) hc fr tz fi la h hbt va (by omega) (by omega) a3), answers_err (M := fun w => DataAt w A n b o xs) (fun w hw => rdraw_e1 s A n c b o xs w hw (by omega) hc fr tz fi la h hbt va (.inr a4))⟩
      · exact ⟨S.zero, 0, fun _ => 0, 5, .inr ⟨by omega, rfl, rfl⟩, by omega, answers_err (M := fun w => DataAt w A n b o xs) (fun w hw => draw_e3 s A n c b o xs w hw (by omega) hc fr tz fi la h hbt va (by omega) (by omega) a3), answers_err (M := fun w => DataAt w A n b o xs) (fun w hw => rdraw_e2 s A n c b o xs w hw (by omega) hc fr tz fi la h hbt va (by omega) (.inr (by omega)))⟩
    by_cases a4 : tz < -h ∨ h - 1 < tz
    · exact ⟨S.zero, 0, fun _ => 0, 5, .inr ⟨by omega, rfl, rfl⟩, by omega, answers_err (M := fun w => DataAt w A n b o xs) (fun w hw => draw_e4 s A n c b o xs w hw (by omega) hc fr tz fi la h hbt va (by omega) (by omega) (by omega) a4), answers_err (M := fun w => DataAt w A n b o xs) (fun w hw => rdraw_e4 s A n c b o xs w hw (by omega) hc fr tz fi la h hbt va (by omega) (by omega) a4)⟩
    by_cases a5 : la < -h ∨ h - 1 < la
    · exact ⟨S.zero, 0, fun _ => 0, 5, .inr ⟨by omega, rfl, rfl⟩, by omega, answers_err (M := fun w => DataAt w A n b o xs) (fun w hw => draw_e5 s A n c b o xs w hw (by omega) hc fr tz fi la h hbt va (by omega) (by omega) (by omega) (by omega) a5), answers_err (M := fun w => DataAt w A n b o xs) (fun w hw => rdraw_e5 s A n c b o xs w hw (by omega) hc fr tz fi la h hbt va (by omega) (by omega) (by omega) a5)⟩
    obtain ⟨f, rfl⟩ := Int.eq_ofNat_of_zero_le (show 0 ≤ fr by omega)
    obtain ⟨z, rfl⟩ := Int.eq_ofNat_of_zero_le (show 0 ≤ fi by omega)
    exact ⟨s, n, _, 0, .inl rfl, by omega, fun w hw => draw_ok s A n c b o xs w hw (by omega) hc tz la f z h hbt va (by omega) (by omega) (by omega) (by omega) (by omega), fun w hw => rdraw_ok s A n c b o xs w hw (by omega) hc tz la f z h hbt va (by omega) (by omega) (by omega) (by omega) (by omega) hx⟩
  · exact ⟨S.zero, 0, fun _ => 0, 1, .inr ⟨by omega, rfl, rfl⟩, by omega, answers_err (M := fun w => DataAt w A n b o xs) (fun w hw => draw_bad s A n c b o xs w hw (by omega) hc fr tz fi la (vS_no va)), answers_err (M := fun w => DataAt w A n b o xs) (fun w hw => rdraw_bad s A n c b o xs w hw (by omega) hc fr tz fi la (vS_no va))⟩
/-- a sample and four numbers, as one block -/
def S.two (s : S) (A : Option Addr) (n c : Nat) (p q r t : Int) : Array Value := #[.string s.nm, .slice A n c, iv s.a2, iv s.a3, iv s.a4, iv s.a5, iv s.a6, iv s.a7, iv s.a8, iv s.a9, iv s.a10, iv s.a11, iv s.a12, iv p, iv q, iv r, iv t]
section
variable {ops : Array Oper} {rest : List Oper} {o : Oper} {a : Act} {w : World} {Q : Exit → Act → World → Prop}
/-- the sample at the head of such a block, loaded -/
theorem wpLoadTwo (hgd : o.guard = none) (x : Operand) (ho : o.op = .load 24 x) (g : Nat) (hx : a.eval x = .pointer (some ⟨g, 0, none⟩)) (s : S) (A : Option Addr) (n c : Nat) (p q r t : Int) (hg : w.heap[g]? = some (.cells (s.two A n c p q r t) 32 (0, 0)))
    (h : wpList Try.prog ops Q rest (a.put o.dst (.agg (s.cs A n c))) w) : wpList Try.prog ops Q (o :: rest) a w := by
  refine wpList_load_mid hgd 24 x ho g 0 hx (s.cs A n c).toList _ (fun j v hj => ?_) Try.underlying24 rfl (by simpa using S.i24 s A n c) h
  rw [Nat.zero_add, bkCell hg j]
  have hl : j < 13 := by
    have := (List.getElem?_eq_some_iff.1 hj).1
    simpa [S.cs] using this
  have e : ∀ j, j < 13 → (s.two A n c p q r t)[j]? = (s.cs A n c).toList[j]? := by
    intro j hj
    rcases (by omega : j = 0 ∨ j = 1 ∨ j = 2 ∨ j = 3 ∨ j = 4 ∨ j = 5 ∨ j = 6 ∨ j = 7 ∨ j = 8 ∨ j = 9 ∨ j = 10 ∨ j = 11 ∨ j = 12) with rfl | rfl | rfl | rfl | rfl | rfl | rfl | rfl | rfl | rfl | rfl | rfl | rfl <;> rfl
  rw [e j hl]
  exact hj
end
set_option maxHeartbeats 16000000 in
set_option maxRecDepth 100000 in
theorem drawlaw_any (s : S) (A : Option Addr) (n c b o : Nat) (xs : Nat → Int) (hc : n ≤ c) (fr tz fi la : Int) (w : World) (hA : DataAt w A n b o xs) :
    Calls Try.prog 4 #[.agg (s.two A n c fr tz fi la)] w fun e w' => e = .returned (.bool true) ∧ Below w.heap.size w w' := by
  have hB0 : Below w.heap.size w (w.alloc (Obj.cells (s.two A n c fr tz fi la) 32)) := (Below.refl _ _).alloc (Nat.le_refl _) _
  have P0 := Lib.hid (heap_alloc_new w (Obj.cells (s.two A n c fr tz fi la) 32))
  by_cases ha : n ≤ 5000 ∧ s.nm.size ≤ 100
  · have ta : decide (n ≤ 5000 ∧ s.nm.size ≤ 100) = true := decide_eq_true ha
    obtain ⟨s1, N1, Q1, e1, he1, hN1, a1, a2⟩ := draw_answers s A n c b o xs ha.1 hc fr tz fi la
    have HD := Lib.hid hA
    have HA1 := Lib.hid a1
    have HA2 := Lib.hid a2
    have HE1 := Lib.hid (And.intro he1 hN1)
    clear hA a1 a2 he1 hN1 ha
    go_enter Try.func4, Try.ntmps4
    go_upto_region 3 with (first
      | (refine wpLoadTwo rfl (.tmp 7) rfl (w.heap.size) rfl s A n c fr tz fi la P0.out ?_)
      | (go_at_call 15; (with_reducible refine (tame_any s A n c _).mono ?_); rintro e w1 ⟨rfl, hb1⟩; have P1 := Lib.hid (bkBelow P0.out hb1); have B1 := bdT hB0 hB0.size hb1; have z13 := (bkCell P1.out 13).trans (show _ = some (iv fr) from rfl); have z14 := (bkCell P1.out 14).trans (show _ = some (iv tz) from rfl); have z15 := (bkCell P1.out 15).trans (show _ = some (iv fi) from rfl); have z16 := (bkCell P1.out 16).trans (show _ = some (iv la) from rfl); simp only [ta]))
    go_upto_region 4 with (first
      | (refine wpLoadTwo rfl (.tmp 12) rfl (w.heap.size) rfl s A n c fr tz fi la P1.out ?_)
      | (go_at_call 19; (with_reducible refine (HA1.out _ (HD.out.later B1)).mono ?_); rintro e w2 ⟨A2, c2, b2, o2, rfl, X2, hb2⟩; have Y0_2 := Lib.hid (bkBelow P1.out hb2); have G2 := bdT B1 B1.size hb2; have V2 := Lib.hid X2; have Z2 := Lib.hid (heap_alloc_new w2 (Obj.cells #[Value.string ⟨#[]⟩, Value.slice none 0 0, iv 0, iv 0, iv 0, iv 0, iv 0, iv 0, iv 0, iv 0, iv 0, iv 0, iv 0] 24)))
      | (refine wpList_store_row rfl 24 (.tmp 3) (.tmp 23) rfl (w2.heap.size) (s1.cs A2 N1 c2) rfl rfl 24 _ Z2.out (S.i24 _ _ _ _) (S.sz S.zero s1 none _ 0 0 _ _) (S.one _ _ _ _) ?_; have K2 := below_setRow ((Below.refl w2.heap.size w2).alloc (Nat.le_refl _) (Obj.cells #[Value.string ⟨#[]⟩, Value.slice none 0 0, iv 0, iv 0, iv 0, iv 0, iv 0, iv 0, iv 0, iv 0, iv 0, iv 0, iv 0] 24)) (g := w2.heap.size) (Nat.le_refl _) (s1.cs A2 N1 c2); have Ea_2 := Lib.hid (setRow_heap _ _ _ (s1.cs A2 N1 c2) _ _ Z2.out); have P2 := Lib.hid (bkBelow Y0_2.out K2); have B2 := bdT G2 G2.size K2; have Da_2 := Lib.hid (V2.out.later K2); clear Z2 V2 G2 K2 Y0_2 ; have z13 := (bkCell P2.out 13).trans (show _ = some (iv fr) from rfl); have z14 := (bkCell P2.out 14).trans (show _ = some (iv tz) from rfl); have z15 := (bkCell P2.out 15).trans (show _ = some (iv fi) from rfl); have z16 := (bkCell P2.out 16).trans (show _ = some (iv la) from rfl)))
    go_upto_region 5 with (first
      | (refine wpLoadTwo rfl (.tmp 26) rfl (w.heap.size) rfl s A n c fr tz fi la P2.out ?_)
      | (go_at_call 20; (with_reducible refine (HA2.out _ (HD.out.later B2)).mono ?_); rintro e w3 ⟨A3, c3, b3, o3, rfl, X3, hb3⟩; have Y0_3 := Lib.hid (bkBelow P2.out hb3); have Y1_3 := Lib.hid (bkBelow Ea_2.out hb3); have U0_3 := Lib.hid (Da_2.out.later hb3); have G3 := bdT B2 B2.size hb3; have V3 := Lib.hid X3; have Z3 := Lib.hid (heap_alloc_new w3 (Obj.cells #[Value.string ⟨#[]⟩, Value.slice none 0 0, iv 0, iv 0, iv 0, iv 0, iv 0, iv 0, iv 0, iv 0, iv 0, iv 0, iv 0] 24)))
      | (refine wpList_store_row rfl 24 (.tmp 5) (.tmp 37) rfl (w3.heap.size) (s1.cs A3 N1 c3) rfl rfl 24 _ Z3.out (S.i24 _ _ _ _) (S.sz S.zero s1 none _ 0 0 _ _) (S.one _ _ _ _) ?_; have K3 := below_setRow ((Below.refl w3.heap.size w3).alloc (Nat.le_refl _) (Obj.cells #[Value.string ⟨#[]⟩, Value.slice none 0 0, iv 0, iv 0, iv 0, iv 0, iv 0, iv 0, iv 0, iv 0, iv 0, iv 0, iv 0] 24)) (g := w3.heap.size) (Nat.le_refl _) (s1.cs A3 N1 c3); have Eb_3 := Lib.hid (setRow_heap _ _ _ (s1.cs A3 N1 c3) _ _ Z3.out); have P3 := Lib.hid (bkBelow Y0_3.out K3); have Ea_3 := Lib.hid (bkBelow Y1_3.out K3); have Da_3 := Lib.hid (U0_3.out.later K3); have B3 := bdT G3 G3.size K3; have Db_3 := Lib.hid (V3.out.later K3); clear Z3 V3 G3 K3 Y0_3 Y1_3 U0_3))
    go_wp2_with (first
      | (refine wpList_load_row rfl 24 (.tmp 3) rfl (w2.heap.size) rfl 24 _ (0, 0) _ Ea_3.out Try.underlying24 rfl (S.i24 _ _ _ _) ?_)
      | (refine wpList_load_row rfl 24 (.tmp 5) rfl (w3.heap.size) rfl 24 _ (0, 0) _ Eb_3.out Try.underlying24 rfl (S.i24 _ _ _ _) ?_)
      | (go_at_call 18; (with_reducible refine (same_gen s1 A2 A3 N1 c2 c3 b2 o2 b3 o3 Q1 e1 HE1.out.1 HE1.out.2 _ Da_3.out Db_3.out).mono ?_); rintro e w6 ⟨rfl, hb6⟩; have B6 := bdT B3 B3.size hb6))
    go_ret
    exact ⟨rfl, B6⟩
  · have ta : decide (n ≤ 5000 ∧ s.nm.size ≤ 100) = false := decide_eq_false ha
    clear hA ha
    go_enter Try.func4, Try.ntmps4
    go_wp2_with (first
      | (refine wpLoadTwo rfl (.tmp 7) rfl (w.heap.size) rfl s A n c fr tz fi la P0.out ?_)
      | (go_at_call 15; (with_reducible refine (tame_any s A n c _).mono ?_); rintro e w1 ⟨rfl, hb1⟩; have P1 := Lib.hid (bkBelow P0.out hb1); have B1 := bdT hB0 hB0.size hb1; have z13 := (bkCell P1.out 13).trans (show _ = some (iv fr) from rfl); have z14 := (bkCell P1.out 14).trans (show _ = some (iv tz) from rfl); have z15 := (bkCell P1.out 15).trans (show _ = some (iv fi) from rfl); have z16 := (bkCell P1.out 16).trans (show _ = some (iv la) from rfl); simp only [ta]))
    go_ret
    exact ⟨rfl, B1⟩
theorem draw_law (s : S) (A : Option Addr) (n c : Nat) (zs : List Int) (p q r t : Int) (w : World) (h1 : ((A = none ∧ n = 0 ∧ c = 0 ∧ zs = []) ∨ ∃ x, A = some x ∧ n ≤ c ∧ c ≤ maxLen ∧ zs.length = c ∧ (∀ i, i < zs.length → w.cell? (x.add i) = some (.int .i64 (zs.getD i 0))) ∧ ∀ n ∈ zs, (Lit.int .i64 n).wf = true)) :
    Calls Try.prog 4 #[.agg (s.two A n c p q r t)] w fun e w' => e = .returned (.bool true) ∧ Below w.heap.size w w' := by
  obtain ⟨k1, b, o, d1⟩ := dataOf h1
  exact drawlaw_any s A n c b o _ k1 p q r t w d1
end Go.Proofs.Ytejnhhjldddbdaa.TX

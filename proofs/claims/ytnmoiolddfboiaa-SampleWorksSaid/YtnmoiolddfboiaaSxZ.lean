/- A sample with new memory, and of other bits, as the reference makes it. -/
import Derived.Test.YtnmoiolddfboiaaSxY
import Derived.Laws.AppendOwnNone
namespace Go.Proofs.Ytnmoiolddfboiaa.SX
open Go.RowKit Go.Proofs.YtnmoiolddfboiaaW.PrintLast Go.Proofs.Ytnmoiolddfboiaa.TX Go.Proofs.Ytnmoiolddfboiaa.Cu
set_option linter.unusedVariables false
set_option linter.unusedSimpArgs false
set_option maxHeartbeats 16000000 in
set_option maxRecDepth 100000 in
theorem fresh_some (s : S) (n c b o : Nat) (xs : Nat → Int) (hn : n ≤ 1000000) (w : World) (ad : Addr) (hA : DataAt w (some ad) n b o xs) :
    Calls Try.prog 79 #[.agg (s.cs (some ad) n c)] w fun e w' => ∃ A' c', e = .returned (.agg (s.cs A' n c')) ∧ w'.ownsRow w.heap.size 3 1 (.slice A' n c') n (rw_ xs n) ∧ Below w.heap.size w w' := by
  have B0 : Below w.heap.size w ((w.alloc (Obj.cells (s.cs (some ad) n c) 24)).alloc (Obj.cells #[Value.string ⟨#[]⟩, Value.slice none 0 0, iv 0, iv 0, iv 0, iv 0, iv 0, iv 0, iv 0, iv 0, iv 0, iv 0, iv 0] 24)) := ((Below.refl _ _).alloc (Nat.le_refl _) _).alloc (by simp) _
  have P0 := Lib.hid (heap_alloc2_old w (Obj.cells (s.cs (some ad) n c) 24) (Obj.cells #[Value.string ⟨#[]⟩, Value.slice none 0 0, iv 0, iv 0, iv 0, iv 0, iv 0, iv 0, iv 0, iv 0, iv 0, iv 0, iv 0] 24))
  have Q0 := Lib.hid (heap_alloc2_new w (Obj.cells (s.cs (some ad) n c) 24) (Obj.cells #[Value.string ⟨#[]⟩, Value.slice none 0 0, iv 0, iv 0, iv 0, iv 0, iv 0, iv 0, iv 0, iv 0, iv 0, iv 0, iv 0] 24))
  obtain ⟨i0, hi, hz0, hz1, hz2⟩ := info_parts info3
  have MD := Lib.hid (show (((w.alloc (Obj.cells (s.cs (some ad) n c) 24)).alloc (Obj.cells #[Value.string ⟨#[]⟩, Value.slice none 0 0, iv 0, iv 0, iv 0, iv 0, iv 0, iv 0, iv 0, iv 0, iv 0, iv 0, iv 0] 24)).alloc (Obj.cells #[] 3)).ownsRow (w.heap.size + 2) 3 1 (.slice (some ⟨w.heap.size + 1 + 1, 0, none⟩) 0 0) 0 [] from by
    have := (World.ownsRow_made (e := 3) (size := 1) (base := w.heap.size + 2) ((w.alloc (Obj.cells (s.cs (some ad) n c) 24)).alloc (Obj.cells #[Value.string ⟨#[]⟩, Value.slice none 0 0, iv 0, iv 0, iv 0, iv 0, iv 0, iv 0, iv 0, iv 0, iv 0, iv 0, iv 0] 24)) #[] 0 (by simp <;> omega) (Nat.zero_le _) rfl)
    rwa [show ((w.alloc (Obj.cells (s.cs (some ad) n c) 24)).alloc (Obj.cells #[Value.string ⟨#[]⟩, Value.slice none 0 0, iv 0, iv 0, iv 0, iv 0, iv 0, iv 0, iv 0, iv 0, iv 0, iv 0, iv 0] 24)).heap.size = w.heap.size + 1 + 1 by simp] at this)
  have y1 : (s.cs (some ad) n c)[1]? = some (Value.slice (some ad) n c) := rfl
  have hc : ∀ (W : World), Below w.heap.size w W → ∀ j u, (rw_ xs n)[j]? = some u → W.cell? (ad.add j) = some u := fun W hb j u hj => by
    have hjn : j < n := by have := (List.getElem?_eq_some_iff.1 hj).1; rwa [rw_len] at this
    have ht := Option.some.inj (hA.top (by omega))
    subst ht
    rw [rw_at _ _ _ hjn] at hj
    obtain rfl := Option.some.inj hj
    rw [addLit]
    exact (hA.later hb).cell j hjn
  have H := Lib.hid (hc _ (B0.alloc B0.size (Obj.cells #[] 3)))
  clear hA hc
  go_enter Try.func79, Try.ntmps79
  go_upto_region 2 with (at_builtin; refine wpList_append_own _ rfl _ _ 22 rfl (w.heap.size + 2) 3 i0 (.int .i64 0) 1 8 Try.underlying22 hi hz0 hz1 hz2 rfl (by decide) _ _ _ rfl MD.out ad n c (rw_ xs n) rfl (by simp [rw_len]) (fun j u hj => H.out j u hj) (by intro u hu; simp only [rw_, List.mem_map] at hu; obtain ⟨x, _, rfl⟩ := hu; rfl) (by unfold maxLen; omega) (by omega) (by simp <;> omega) ?_; intro v' w1 hown hgrow _; have O1 := Lib.hid (ownEq hown (show 0 + n = n by omega) (show [] ++ rw_ xs n = rw_ xs n from rfl)); obtain ⟨A', c', g', rfl, _, _⟩ := ownDataV O1.out; have P1 := Lib.hid (grBlk (bkAlloc P0.out (Obj.cells #[] 3)) hgrow (by intro h; have := ownRowB MD.out _ h.symm; omega)); have Q1 := Lib.hid (grBlk (bkAlloc Q0.out (Obj.cells #[] 3)) hgrow (by intro h; have := ownRowB MD.out _ h.symm; omega)); have B1 := (B0.alloc B0.size (Obj.cells #[] 3)).grown hgrow (by simp <;> omega) (fun k hk => by have := ownRowB MD.out k hk; omega); have p1 := (bkCell P1.out 1).trans (show _ = some (Value.slice (some ad) n c) from rfl); have f1 := bkFrozen P1.out 1; clear hown hgrow)
  have P2 := Lib.hid (bkPut P1.out 1 (.slice A' n c') (S.set1 s (some ad) A' n c n c'))
  have Q2 := Lib.hid (bkFar Q1.out (p := ⟨w.heap.size, 1, none⟩) (by simp) (.slice A' n c'))
  have O2 := Lib.hid (ownVC O1.out (p := ⟨w.heap.size, 1, none⟩) (by simp <;> omega) (.slice A' n c'))
  have B2 := B1.setCell (p := ⟨w.heap.size, 1, none⟩) (Nat.le_refl _) (.slice A' n c')
  clear p1 f1
  go_wp2_with (first
    | (refine wpList_load_row rfl 24 (.tmp 1) rfl (w.heap.size) rfl 24 _ (0, 0) _ P2.out Try.underlying24 rfl (S.i24 _ _ _ _) ?_)
    | (refine wpList_store_row rfl 24 (.tmp 2) (.tmp 8) rfl (w.heap.size + 1) (s.cs A' n c') rfl rfl 24 _ Q2.out (S.i24 _ _ _ _) (S.sz S.zero s none _ 0 0 _ _) (S.one _ _ _ _) ?_))
  refine bodyPost_ret (results_cell_row rfl _ _ (w.heap.size + 1) 24 _ (0, 0) _ rfl (setRow_heap _ _ _ _ _ _ Q2.out) Try.underlying24 rfl (S.i24 _ _ _ _)) rfl ⟨A', c', rfl, ownBase2 (ownVR O2.out (by omega) _) (by omega), below_setRow B2 (by omega) _⟩
set_option maxHeartbeats 16000000 in
set_option maxRecDepth 100000 in
theorem fresh_none (s : S) (n : Nat) (xs : Nat → Int) (h0 : n = 0) (w : World) :
    Calls Try.prog 79 #[.agg (s.cs none n 0)] w fun e w' => ∃ A' c', e = .returned (.agg (s.cs A' n c')) ∧ w'.ownsRow w.heap.size 3 1 (.slice A' n c') n (rw_ xs n) ∧ Below w.heap.size w w' := by
  subst h0
  have B0 : Below w.heap.size w ((w.alloc (Obj.cells (s.cs none 0 0) 24)).alloc (Obj.cells #[Value.string ⟨#[]⟩, Value.slice none 0 0, iv 0, iv 0, iv 0, iv 0, iv 0, iv 0, iv 0, iv 0, iv 0, iv 0, iv 0] 24)) := ((Below.refl _ _).alloc (Nat.le_refl _) _).alloc (by simp) _
  have P0 := Lib.hid (heap_alloc2_old w (Obj.cells (s.cs none 0 0) 24) (Obj.cells #[Value.string ⟨#[]⟩, Value.slice none 0 0, iv 0, iv 0, iv 0, iv 0, iv 0, iv 0, iv 0, iv 0, iv 0, iv 0, iv 0] 24))
  have Q0 := Lib.hid (heap_alloc2_new w (Obj.cells (s.cs none 0 0) 24) (Obj.cells #[Value.string ⟨#[]⟩, Value.slice none 0 0, iv 0, iv 0, iv 0, iv 0, iv 0, iv 0, iv 0, iv 0, iv 0, iv 0, iv 0] 24))
  obtain ⟨i0, hi, hz0, hz1, hz2⟩ := info_parts info3
  have MD := Lib.hid (show (((w.alloc (Obj.cells (s.cs none 0 0) 24)).alloc (Obj.cells #[Value.string ⟨#[]⟩, Value.slice none 0 0, iv 0, iv 0, iv 0, iv 0, iv 0, iv 0, iv 0, iv 0, iv 0, iv 0, iv 0] 24)).alloc (Obj.cells #[] 3)).ownsRow (w.heap.size + 2) 3 1 (.slice (some ⟨w.heap.size + 1 + 1, 0, none⟩) 0 0) 0 [] from by
    have := (World.ownsRow_made (e := 3) (size := 1) (base := w.heap.size + 2) ((w.alloc (Obj.cells (s.cs none 0 0) 24)).alloc (Obj.cells #[Value.string ⟨#[]⟩, Value.slice none 0 0, iv 0, iv 0, iv 0, iv 0, iv 0, iv 0, iv 0, iv 0, iv 0, iv 0, iv 0] 24)) #[] 0 (by simp <;> omega) (Nat.zero_le _) rfl)
    rwa [show ((w.alloc (Obj.cells (s.cs none 0 0) 24)).alloc (Obj.cells #[Value.string ⟨#[]⟩, Value.slice none 0 0, iv 0, iv 0, iv 0, iv 0, iv 0, iv 0, iv 0, iv 0, iv 0, iv 0, iv 0] 24)).heap.size = w.heap.size + 1 + 1 by simp] at this)
  have y1 : (s.cs none 0 0)[1]? = some (Value.slice none 0 0) := rfl
  go_enter Try.func79, Try.ntmps79
  go_upto_region 2 with (at_builtin; refine wpList_append_own_none rfl _ _ 22 rfl (w.heap.size + 2) 3 i0 1 Try.underlying22 hi _ _ _ rfl MD.out rfl ?_; have P1 := Lib.hid (bkAlloc P0.out (Obj.cells #[] 3)); have Q1 := Lib.hid (bkAlloc Q0.out (Obj.cells #[] 3)); have O1 := Lib.hid (ownN MD.out (show [] = rw_ xs 0 by simp [rw_])); have B1 := B0.alloc B0.size (Obj.cells #[] 3); have p1 := (bkCell P1.out 1).trans (show _ = some (Value.slice none 0 0) from rfl); have f1 := bkFrozen P1.out 1; clear P0 Q0 B0 MD y1; generalize ((w.alloc (Obj.cells (s.cs none 0 0) 24)).alloc (Obj.cells #[Value.string ⟨#[]⟩, Value.slice none 0 0, iv 0, iv 0, iv 0, iv 0, iv 0, iv 0, iv 0, iv 0, iv 0, iv 0, iv 0] 24)).alloc (Obj.cells #[] 3) = w1 at *)
  have P2 := Lib.hid (bkPut P1.out 1 (.slice (some ⟨w.heap.size + 1 + 1, 0, none⟩) 0 0) (S.set1 s none (some ⟨w.heap.size + 1 + 1, 0, none⟩) 0 0 0 0))
  have Q2 := Lib.hid (bkFar Q1.out (p := ⟨w.heap.size, 1, none⟩) (by simp) (.slice (some ⟨w.heap.size + 1 + 1, 0, none⟩) 0 0))
  have O2 := Lib.hid (ownVC O1.out (p := ⟨w.heap.size, 1, none⟩) (by simp <;> omega) (.slice (some ⟨w.heap.size + 1 + 1, 0, none⟩) 0 0))
  have B2 := B1.setCell (p := ⟨w.heap.size, 1, none⟩) (Nat.le_refl _) (.slice (some ⟨w.heap.size + 1 + 1, 0, none⟩) 0 0)
  clear p1 f1
  go_wp2_with (first
    | (refine wpList_load_row rfl 24 (.tmp 1) rfl (w.heap.size) rfl 24 _ (0, 0) _ P2.out Try.underlying24 rfl (S.i24 _ _ _ _) ?_)
    | (refine wpList_store_row rfl 24 (.tmp 2) (.tmp 8) rfl (w.heap.size + 1) (s.cs (some ⟨w.heap.size + 1 + 1, 0, none⟩) 0 0) rfl rfl 24 _ Q2.out (S.i24 _ _ _ _) (S.sz S.zero s none _ 0 0 _ _) (S.one _ _ _ _) ?_))
  refine bodyPost_ret (results_cell_row rfl _ _ (w.heap.size + 1) 24 _ (0, 0) _ rfl (setRow_heap _ _ _ _ _ _ Q2.out) Try.underlying24 rfl (S.i24 _ _ _ _)) rfl ⟨some ⟨w.heap.size + 1 + 1, 0, none⟩, 0, rfl, ownBase2 (ownVR O2.out (by omega) _) (by omega), below_setRow B2 (by omega) _⟩
theorem fresh_any (s : S) (A : Option Addr) (n c b o : Nat) (xs : Nat → Int) (hn : n ≤ 1000000) (hN : A = none → c = 0) (w : World) (hA : DataAt w A n b o xs) :
    Calls Try.prog 79 #[.agg (s.cs A n c)] w fun e w' => ∃ A' c', e = .returned (.agg (s.cs A' n c')) ∧ w'.ownsRow w.heap.size 3 1 (.slice A' n c') n (rw_ xs n) ∧ Below w.heap.size w w' := by
  rcases A with _ | ad
  · obtain rfl := hN rfl
    refine fresh_none s n xs ?_ w
    rcases Nat.eq_zero_or_pos n with h | h
    · exact h
    · exact absurd (hA.top h) (by simp)
  · exact fresh_some s n c b o xs hn w ad hA
theorem ownVN {w : World} {B n : Nat} {v : Value} {xs : List Value} (h : w.ownsRow B 3 1 v n xs) {p : Addr} (hp : ∀ k, v.ownBlock = some k → k ≠ p.block) (u : Value) : (w.setCell p u).ownsRow B 3 1 v n xs := by
  refine ⟨h.1, ?_⟩
  rcases h.2 with h' | ⟨g', cap', cur, h', h1, hg, h2⟩
  · exact .inl h'
  · exact .inr ⟨g', cap', cur, h', h1, bkFar hg (hp g' (by rw [h']; rfl)) u, h2⟩
theorem ownVRN {w : World} {B n k : Nat} {v : Value} {xs : List Value} (h : w.ownsRow B 3 1 v n xs) (hp : ∀ g, v.ownBlock = some g → g ≠ k) (cs : Array Value) : (w.setRow k cs).ownsRow B 3 1 v n xs := by
  refine ⟨h.1, ?_⟩
  rcases h.2 with h' | ⟨g', cap', cur, h', h1, hg, h2⟩
  · exact .inl h'
  · exact .inr ⟨g', cap', cur, h', h1, (setRow_other w k g' cs (hp g' (by rw [h']; rfl))).trans hg, h2⟩
set_option maxHeartbeats 16000000 in
set_option maxRecDepth 100000 in
theorem rconv_bad (s : S) (A : Option Addr) (n c0 b o : Nat) (xs : Nat → Int) (bits : Int) (hv : vS s n xs = false) (hn : n ≤ 9223372036854775807) (hc0 : n ≤ c0) (w : World) (hA : DataAt w A n b o xs) : Gives 39 #[.agg (s.cs A n c0), iv bits] w S.zero 0 (fun _ => 0) 1 := by
  unfold Gives
  have H0 := Lib.hid (show ((w.alloc (Obj.cells (s.cs A n c0) 24)).alloc (Obj.cells #[Value.string ⟨#[]⟩, Value.slice none 0 0, iv 0, iv 0, iv 0, iv 0, iv 0, iv 0, iv 0, iv 0, iv 0, iv 0, iv 0] 24)).heap[w.heap.size + 1]? = some (.cells (S.zero.cs none 0 0) 24 (0, 0)) from heap_alloc2_new w (Obj.cells (s.cs A n c0) 24) (Obj.cells #[Value.string ⟨#[]⟩, Value.slice none 0 0, iv 0, iv 0, iv 0, iv 0, iv 0, iv 0, iv 0, iv 0, iv 0, iv 0, iv 0] 24))
  have B0 : Below w.heap.size w ((w.alloc (Obj.cells (s.cs A n c0) 24)).alloc (Obj.cells #[Value.string ⟨#[]⟩, Value.slice none 0 0, iv 0, iv 0, iv 0, iv 0, iv 0, iv 0, iv 0, iv 0, iv 0, iv 0, iv 0] 24)) := ((Below.refl _ _).alloc (Nat.le_refl _) _).alloc (by simp) _
  have P0 := Lib.hid (show ((w.alloc (Obj.cells (s.cs A n c0) 24)).alloc (Obj.cells #[Value.string ⟨#[]⟩, Value.slice none 0 0, iv 0, iv 0, iv 0, iv 0, iv 0, iv 0, iv 0, iv 0, iv 0, iv 0, iv 0] 24)).heap[w.heap.size]? = some (.cells (s.cs A n c0) 24 (0, 0)) from heap_alloc2_old w _ _)
  have D0 := Lib.hid (hA.later B0)
  have VC := Lib.hid (show ∀ (W : World), DataAt W A n b o xs → Calls Try.prog 25 #[.agg (s.cs A n c0)] W fun e w' => e = .returned (.bool false) ∧ Below W.heap.size W w' from fun W h => by have := rvalid_any s A n c0 b o xs hn hc0 W h; rwa [hv] at this)
  clear hA hv
  go_enter Try.func39, Try.ntmps39
  go_wp2_with (first
    | (refine wpList_load_row rfl 24 (.tmp 2) rfl (w.heap.size) rfl 24 _ (0, 0) _ P0.out Try.underlying24 rfl (S.i24 _ _ _ _) ?_)
    | (go_at_call 25; (with_reducible refine (VC.out _ D0.out).mono ?_); rintro e w1 ⟨rfl, hb1⟩; have P1 := Lib.hid (bkBelow P0.out hb1); have H1 := Lib.hid (bkBelow H0.out hb1); have D1 := Lib.hid (D0.out.later hb1); have B1 := bdT B0 B0.size hb1)
    | (refine wpBuild0 rfl 24 rfl (S.zero.cs none 0 0) built24 ?_)
    | (refine wpList_store_row rfl 24 (.tmp 4) (.tmp 12) rfl (w.heap.size + 1) (S.zero.cs none 0 0) rfl rfl 24 _ H1.out (S.i24 _ _ _ _) (S.sz S.zero S.zero none none 0 0 0 0) (S.one _ _ _ _) ?_))
  refine bodyPost_ret (res_ct rfl _ _ (w.heap.size + 1) 24 _ (0, 0) _ rfl (setRow_heap _ _ _ _ _ _ H1.out) Try.underlying24 rfl (S.i24 _ _ _ _)) rfl ⟨none, 0, rfl, own0, below_setRow B1 (by omega) _⟩
set_option maxHeartbeats 16000000 in
set_option maxRecDepth 100000 in
theorem rconv_rng (s : S) (A : Option Addr) (n c0 b o : Nat) (xs : Nat → Int) (bits : Int) (hv : vS s n xs = true) (h8 : ¬ bits = 8) (h16 : ¬ bits = 16) (hn : n ≤ 9223372036854775807) (hc0 : n ≤ c0) (w : World) (hA : DataAt w A n b o xs) : Gives 39 #[.agg (s.cs A n c0), iv bits] w S.zero 0 (fun _ => 0) 5 := by
  unfold Gives
  have H0 := Lib.hid (show ((w.alloc (Obj.cells (s.cs A n c0) 24)).alloc (Obj.cells #[Value.string ⟨#[]⟩, Value.slice none 0 0, iv 0, iv 0, iv 0, iv 0, iv 0, iv 0, iv 0, iv 0, iv 0, iv 0, iv 0] 24)).heap[w.heap.size + 1]? = some (.cells (S.zero.cs none 0 0) 24 (0, 0)) from heap_alloc2_new w (Obj.cells (s.cs A n c0) 24) (Obj.cells #[Value.string ⟨#[]⟩, Value.slice none 0 0, iv 0, iv 0, iv 0, iv 0, iv 0, iv 0, iv 0, iv 0, iv 0, iv 0, iv 0] 24))
  have B0 : Below w.heap.size w ((w.alloc (Obj.cells (s.cs A n c0) 24)).alloc (Obj.cells #[Value.string ⟨#[]⟩, Value.slice none 0 0, iv 0, iv 0, iv 0, iv 0, iv 0, iv 0, iv 0, iv 0, iv 0, iv 0, iv 0] 24)) := ((Below.refl _ _).alloc (Nat.le_refl _) _).alloc (by simp) _
  have P0 := Lib.hid (show ((w.alloc (Obj.cells (s.cs A n c0) 24)).alloc (Obj.cells #[Value.string ⟨#[]⟩, Value.slice none 0 0, iv 0, iv 0, iv 0, iv 0, iv 0, iv 0, iv 0, iv 0, iv 0, iv 0, iv 0] 24)).heap[w.heap.size]? = some (.cells (s.cs A n c0) 24 (0, 0)) from heap_alloc2_old w _ _)
  have D0 := Lib.hid (hA.later B0)
  have VC := Lib.hid (show ∀ (W : World), DataAt W A n b o xs → Calls Try.prog 25 #[.agg (s.cs A n c0)] W fun e w' => e = .returned (.bool true) ∧ Below W.heap.size W w' from fun W h => by have := rvalid_any s A n c0 b o xs hn hc0 W h; rwa [hv] at this)
  have e8 : (bits == 8) = false := by simp [h8]
  have x8 : (bits != 8) = true := by simp [h8]
  have e16 : (bits == 16) = false := by simp [h16]
  have x16 : (bits != 16) = true := by simp [h16]
  clear h8 h16
  clear hA hv
  go_enter Try.func39, Try.ntmps39
  go_wp2_with (first
    | (refine wpList_load_row rfl 24 (.tmp 2) rfl (w.heap.size) rfl 24 _ (0, 0) _ P0.out Try.underlying24 rfl (S.i24 _ _ _ _) ?_)
    | (go_at_call 25; (with_reducible refine (VC.out _ D0.out).mono ?_); rintro e w1 ⟨rfl, hb1⟩; have P1 := Lib.hid (bkBelow P0.out hb1); have H1 := Lib.hid (bkBelow H0.out hb1); have D1 := Lib.hid (D0.out.later hb1); have B1 := bdT B0 B0.size hb1)
    | (refine wpBuild0 rfl 24 rfl (S.zero.cs none 0 0) built24 ?_)
    | (refine wpList_store_row rfl 24 (.tmp 4) (.tmp 20) rfl (w.heap.size + 1) (S.zero.cs none 0 0) rfl rfl 24 _ H1.out (S.i24 _ _ _ _) (S.sz S.zero S.zero none none 0 0 0 0) (S.one _ _ _ _) ?_))
  refine bodyPost_ret (res_ct rfl _ _ (w.heap.size + 1) 24 _ (0, 0) _ rfl (setRow_heap _ _ _ _ _ _ H1.out) Try.underlying24 rfl (S.i24 _ _ _ _)) rfl ⟨none, 0, rfl, own0, below_setRow B1 (by omega) _⟩
set_option maxHeartbeats 16000000 in
set_option maxRecDepth 100000 in
theorem rconv_up (s : S) (A : Option Addr) (n c0 b o : Nat) (xs : Nat → Int)  (hv : vS s n xs = true) (hN : A = none → c0 = 0) (ha2 : s.a2 = 8) (hn : n ≤ 9223372036854775807) (hc0 : n ≤ c0) (w : World) (hA : DataAt w A n b o xs) : Gives 39 #[.agg (s.cs A n c0), iv 16] w (cvS s 16) n (cvF s.a2 16 xs) 0 := by
  unfold Gives
  have H0 := Lib.hid (show ((w.alloc (Obj.cells (s.cs A n c0) 24)).alloc (Obj.cells #[Value.string ⟨#[]⟩, Value.slice none 0 0, iv 0, iv 0, iv 0, iv 0, iv 0, iv 0, iv 0, iv 0, iv 0, iv 0, iv 0] 24)).heap[w.heap.size + 1]? = some (.cells (S.zero.cs none 0 0) 24 (0, 0)) from heap_alloc2_new w (Obj.cells (s.cs A n c0) 24) (Obj.cells #[Value.string ⟨#[]⟩, Value.slice none 0 0, iv 0, iv 0, iv 0, iv 0, iv 0, iv 0, iv 0, iv 0, iv 0, iv 0, iv 0] 24))
  have B0 : Below w.heap.size w ((w.alloc (Obj.cells (s.cs A n c0) 24)).alloc (Obj.cells #[Value.string ⟨#[]⟩, Value.slice none 0 0, iv 0, iv 0, iv 0, iv 0, iv 0, iv 0, iv 0, iv 0, iv 0, iv 0, iv 0] 24)) := ((Below.refl _ _).alloc (Nat.le_refl _) _).alloc (by simp) _
  have P0 := Lib.hid (show ((w.alloc (Obj.cells (s.cs A n c0) 24)).alloc (Obj.cells #[Value.string ⟨#[]⟩, Value.slice none 0 0, iv 0, iv 0, iv 0, iv 0, iv 0, iv 0, iv 0, iv 0, iv 0, iv 0, iv 0] 24)).heap[w.heap.size]? = some (.cells (s.cs A n c0) 24 (0, 0)) from heap_alloc2_old w _ _)
  have D0 := Lib.hid (hA.later B0)
  have VC := Lib.hid (show ∀ (W : World), DataAt W A n b o xs → Calls Try.prog 25 #[.agg (s.cs A n c0)] W fun e w' => e = .returned (.bool true) ∧ Below W.heap.size W w' from fun W h => by have := rvalid_any s A n c0 b o xs hn hc0 W h; rwa [hv] at this)
  obtain ⟨_, _, n4, _, _, _, l7, l10⟩ := vS_yes hv
  unfold LpOk at l7 l10
  have HN := Lib.hid n4
  have HX := Lib.hid (vS_frames hv)
  have OC := Lib.hid fun (W : World) (h : DataAt W A n b o xs) => fresh_any s A n c0 b o xs (by omega) hN W h
  have HA2 := Lib.hid ha2
  clear hA hv l7 l10 ha2
  go_enter Try.func39, Try.ntmps39
  go_upto_region 5 with (first
    | (refine wpList_load_row rfl 24 (.tmp 2) rfl (w.heap.size) rfl 24 _ (0, 0) _ P0.out Try.underlying24 rfl (S.i24 _ _ _ _) ?_)
    | (go_at_call 25; (with_reducible refine (VC.out _ D0.out).mono ?_); rintro e w1 ⟨rfl, hb1⟩; have P1 := Lib.hid (bkBelow P0.out hb1); have H1 := Lib.hid (bkBelow H0.out hb1); have D1 := Lib.hid (D0.out.later hb1); have B1 := bdT B0 B0.size hb1))
  have HP := Lib.hid (bkLt P1.out)
  have HH := Lib.hid (bkLt H1.out)
  go_upto_region 6 with (first
    | (refine wpList_load_row rfl 24 (.tmp 2) rfl (w.heap.size) rfl 24 _ (0, 0) _ P1.out Try.underlying24 rfl (S.i24 _ _ _ _) ?_)
    | (go_at_call 79; (with_reducible refine (OC.out _ D1.out).mono ?_); rintro e w2 ⟨A', c', rfl, hO2, hb2⟩; have P2 := Lib.hid (bkBelow P1.out hb2); have H2 := Lib.hid (bkBelow H1.out hb2); have B2 := bdT B1 B1.size hb2; have O2 := Lib.hid hO2; clear hO2 hb2)
    | (refine wpList_store_row rfl 24 (.tmp 6) (.tmp 22) rfl (w2.heap.size) (s.cs A' n c') rfl rfl 24 _ (heap_alloc_new w2 (Obj.cells #[Value.string ⟨#[]⟩, Value.slice none 0 0, iv 0, iv 0, iv 0, iv 0, iv 0, iv 0, iv 0, iv 0, iv 0, iv 0, iv 0] 24)) (S.i24 _ _ _ _) (S.sz S.zero s none _ 0 0 _ _) (S.one _ _ _ _) ?_))
  have K3 := below_setRow ((Below.refl w2.heap.size w2).alloc (Nat.le_refl _) (Obj.cells #[Value.string ⟨#[]⟩, Value.slice none 0 0, iv 0, iv 0, iv 0, iv 0, iv 0, iv 0, iv 0, iv 0, iv 0, iv 0, iv 0] 24)) (g := w2.heap.size) (Nat.le_refl _) (s.cs A' n c')
  have P3 := Lib.hid (bkBelow P2.out K3)
  have H3 := Lib.hid (bkBelow H2.out K3)
  have O3 := Lib.hid (ownV O2.out K3)
  have T3 := Lib.hid (setRow_heap _ _ _ (s.cs A' n c') _ _ (heap_alloc_new w2 (Obj.cells #[Value.string ⟨#[]⟩, Value.slice none 0 0, iv 0, iv 0, iv 0, iv 0, iv 0, iv 0, iv 0, iv 0, iv 0, iv 0, iv 0] 24)))
  have B3 := bdT B2 B2.size K3
  have HL := Lib.hid (ownLt O2.out)
  have HP2 := Lib.hid (bkLt P2.out)
  have HH2 := Lib.hid (bkLt H2.out)
  clear P2 H2 O2 B2 P0 H0 D0 B0 H1 D1 B1 P1 K3
  generalize (w2.alloc (Obj.cells #[Value.string ⟨#[]⟩, Value.slice none 0 0, iv 0, iv 0, iv 0, iv 0, iv 0, iv 0, iv 0, iv 0, iv 0, iv 0, iv 0] 24)).setRow w2.heap.size (s.cs A' n c') = w3 at *
  have t2 := (bkCell T3.out 2).trans (show _ = some (iv s.a2) from rfl)
  have u2 := bkFrozen T3.out 2
  go_upto_region 7 with (fail)
  have P4 := Lib.hid (bkFar P3.out (p := ⟨w2.heap.size, 2, none⟩) (by have := HP2.out; simp; omega) (iv 16))
  have H4 := Lib.hid (bkFar H3.out (p := ⟨w2.heap.size, 2, none⟩) (by have := HH2.out; simp; omega) (iv 16))
  have T4 := Lib.hid (bkPut T3.out 2 (iv 16) (show _ = (cvS s 16).cs A' n c' from rfl))
  have O4 := Lib.hid (ownVN O3.out (p := ⟨w2.heap.size, 2, none⟩) (fun k hk => Nat.ne_of_lt (HL.out k hk)) (iv 16))
  have B4 := B3.setCell (p := ⟨w2.heap.size, 2, none⟩) (Nat.le_of_lt HP2.out) (iv 16)
  clear t2 u2 P3 H3 T3 O3 B3
  generalize w3.setCell ⟨w2.heap.size, 2, none⟩ (iv 16) = w4 at *
  have t1 := (bkCell T4.out 1).trans (show _ = some (Value.slice A' n c') from rfl)
  go_upto_region 8 with (fail)
  clear t1
  go_loopw [28] (fun v wr => ∃ j : Nat, j ≤ n ∧ v = iv j ∧ wr.heap[w.heap.size]? = some (.cells (s.cs A n c0) 24 (0, 0)) ∧ wr.heap[w.heap.size + 1]? = some (.cells (S.zero.cs none 0 0) 24 (0, 0)) ∧ wr.heap[w2.heap.size]? = some (.cells ((cvS s 16).cs A' n c') 24 (0, 0)) ∧ wr.ownsRow w1.heap.size 3 1 (.slice A' n c') n (rw_ (upF (cvX 8 16) xs j) n) ∧ Below w.heap.size w wr) (fun v _ => n - (intOf v).toNat)
  case atStart => exact ⟨0, by omega, rfl, P4.out, H4.out, T4.out, ownN O4.out (by rw [upF_zero]), B4⟩
  case round =>
    clear P4 H4 T4 B4
    obtain ⟨j, hj, rfl, hP, hH, hT, hO, hB⟩ := hrel
    have NP := Lib.hid hP
    have NH := Lib.hid hH
    have NT := Lib.hid hT
    have NO := Lib.hid hO
    have l3 : (0 : Int) ≤ (j : Int) := by omega
    clear hP hH hT hO
    by_cases hlt : j < n
    · have l4 : (j : Int) < (n : Int) := by omega
      obtain ⟨A2, c2, g, e, hd, hform⟩ := ownDataV NO.out
      obtain ⟨rfl, rfl⟩ : A' = A2 ∧ c' = c2 := by simp only [Value.slice.injEq] at e; exact ⟨e.1, e.2.2⟩
      obtain ⟨rfl, hg⟩ : A' = some ⟨g, 0, none⟩ ∧ w1.heap.size ≤ g := by
        rcases hform with h | h
        · omega
        · exact h
      have HG := Lib.hid (show w1.heap.size ≤ g ∧ g < w2.heap.size ∧ w.heap.size < w1.heap.size ∧ w.heap.size + 1 < w1.heap.size from ⟨hg, HL.out g rfl, HP.out, HH.out⟩)
      have s4 : wr.cell? ⟨g, j, none⟩ = some (iv (xs j)) := ((NO.out.cellAt j (by omega)).trans (rw_at _ n j hlt)).trans (by rw [upF_at])
      clear hd hform hg e
      generalize hx : xs j = x at s4
      have HXJ := Lib.hid hx
      have bx := HX.out j hlt
      rw [hx] at bx
      clear hx
      have p2 := (bkCell NP.out 2).trans (show _ = some (iv s.a2) from rfl)
      rw [HA2.out] at p2
      have f4 := NO.out.frozenAt j
      have p1 := (bkCell NT.out 1).trans (show _ = some (Value.slice (some ⟨g, 0, none⟩) n c') from rfl)
      have e1 : wrap64 (x * 256) = x * 256 := wrap_in (by omega) (by omega)
      clear bx
      go_upto_region 14 with (fail)
      have P6 := Lib.hid (bkFar NP.out (p := ⟨g, j, none⟩) (by have := HG.out; simp; omega) (iv (x * 256)))
      have H6 := Lib.hid (bkFar NH.out (p := ⟨g, j, none⟩) (by have := HG.out; simp; omega) (iv (x * 256)))
      have T6 := Lib.hid (bkFar NT.out (p := ⟨g, j, none⟩) (by have := HG.out; simp; omega) (iv (x * 256)))
      have O6 := Lib.hid (ownN (NO.out.stored j (iv (x * 256))).1 ((rw_set _ n j _).trans ((show rw_ _ n = rw_ (fun i => if i = j then cvX 8 16 (xs j) else upF (cvX 8 16) xs j i) n by rw [HXJ.out]; rfl).trans (upF_step (cvX 8 16) xs n j))))
      have B6 := hB.setCell (p := ⟨g, j, none⟩) (by have := HG.out; simp; omega) (iv (x * 256))
      clear s4 f4 p1 p2
      go_wp2
      exact ⟨⟨j + 1, by omega, by go_num, P6.out, H6.out, T6.out, O6.out, B6⟩, by simp [intOf]; omega⟩
    · obtain rfl : j = n := by omega
      go_upto_region 15 with (fail)
      go_wp2_with (first
        | (refine wpList_load_row rfl 24 (.tmp 6) rfl (w2.heap.size) rfl 24 _ (0, 0) _ NT.out Try.underlying24 rfl (S.i24 _ _ _ _) ?_)
        | (refine wpList_store_row rfl 24 (.tmp 4) (.tmp 57) rfl (w.heap.size + 1) ((cvS s 16).cs A' j c') rfl rfl 24 _ NH.out (S.i24 _ _ _ _) (S.sz S.zero _ none _ 0 0 _ _) (S.one _ _ _ _) ?_))
      refine bodyPost_ret (res_ct rfl _ _ (w.heap.size + 1) 24 _ (0, 0) _ rfl (setRow_heap _ _ _ _ _ _ NH.out) Try.underlying24 rfl (S.i24 _ _ _ _)) rfl ⟨A', c', rfl, ownN (ownBase2 (ownVR NO.out HH.out _) (Nat.le_of_lt HP.out)) (by rw [upF_end]; show _ = rw_ (cvF s.a2 16 xs) _; rw [HA2.out]; rfl), below_setRow hB (by omega) _⟩
set_option maxHeartbeats 16000000 in
set_option maxRecDepth 100000 in
theorem rconv_dn (s : S) (A : Option Addr) (n c0 b o : Nat) (xs : Nat → Int)  (hv : vS s n xs = true) (hN : A = none → c0 = 0) (ha2 : s.a2 = 16) (hn : n ≤ 9223372036854775807) (hc0 : n ≤ c0) (w : World) (hA : DataAt w A n b o xs) : Gives 39 #[.agg (s.cs A n c0), iv 8] w (cvS s 8) n (cvF s.a2 8 xs) 0 := by
  unfold Gives
  have H0 := Lib.hid (show ((w.alloc (Obj.cells (s.cs A n c0) 24)).alloc (Obj.cells #[Value.string ⟨#[]⟩, Value.slice none 0 0, iv 0, iv 0, iv 0, iv 0, iv 0, iv 0, iv 0, iv 0, iv 0, iv 0, iv 0] 24)).heap[w.heap.size + 1]? = some (.cells (S.zero.cs none 0 0) 24 (0, 0)) from heap_alloc2_new w (Obj.cells (s.cs A n c0) 24) (Obj.cells #[Value.string ⟨#[]⟩, Value.slice none 0 0, iv 0, iv 0, iv 0, iv 0, iv 0, iv 0, iv 0, iv 0, iv 0, iv 0, iv 0] 24))
  have B0 : Below w.heap.size w ((w.alloc (Obj.cells (s.cs A n c0) 24)).alloc (Obj.cells #[Value.string ⟨#[]⟩, Value.slice none 0 0, iv 0, iv 0, iv 0, iv 0, iv 0, iv 0, iv 0, iv 0, iv 0, iv 0, iv 0] 24)) := ((Below.refl _ _).alloc (Nat.le_refl _) _).alloc (by simp) _
  have P0 := Lib.hid (show ((w.alloc (Obj.cells (s.cs A n c0) 24)).alloc (Obj.cells #[Value.string ⟨#[]⟩, Value.slice none 0 0, iv 0, iv 0, iv 0, iv 0, iv 0, iv 0, iv 0, iv 0, iv 0, iv 0, iv 0] 24)).heap[w.heap.size]? = some (.cells (s.cs A n c0) 24 (0, 0)) from heap_alloc2_old w _ _)
  have D0 := Lib.hid (hA.later B0)
  have VC := Lib.hid (show ∀ (W : World), DataAt W A n b o xs → Calls Try.prog 25 #[.agg (s.cs A n c0)] W fun e w' => e = .returned (.bool true) ∧ Below W.heap.size W w' from fun W h => by have := rvalid_any s A n c0 b o xs hn hc0 W h; rwa [hv] at this)
  obtain ⟨_, _, n4, _, _, _, l7, l10⟩ := vS_yes hv
  unfold LpOk at l7 l10
  have HN := Lib.hid n4
  have HX := Lib.hid (vS_frames hv)
  have OC := Lib.hid fun (W : World) (h : DataAt W A n b o xs) => fresh_any s A n c0 b o xs (by omega) hN W h
  have HA2 := Lib.hid ha2
  clear hA hv l7 l10 ha2
  go_enter Try.func39, Try.ntmps39
  go_upto_region 5 with (first
    | (refine wpList_load_row rfl 24 (.tmp 2) rfl (w.heap.size) rfl 24 _ (0, 0) _ P0.out Try.underlying24 rfl (S.i24 _ _ _ _) ?_)
    | (go_at_call 25; (with_reducible refine (VC.out _ D0.out).mono ?_); rintro e w1 ⟨rfl, hb1⟩; have P1 := Lib.hid (bkBelow P0.out hb1); have H1 := Lib.hid (bkBelow H0.out hb1); have D1 := Lib.hid (D0.out.later hb1); have B1 := bdT B0 B0.size hb1))
  have HP := Lib.hid (bkLt P1.out)
  have HH := Lib.hid (bkLt H1.out)
  go_upto_region 6 with (first
    | (refine wpList_load_row rfl 24 (.tmp 2) rfl (w.heap.size) rfl 24 _ (0, 0) _ P1.out Try.underlying24 rfl (S.i24 _ _ _ _) ?_)
    | (go_at_call 79; (with_reducible refine (OC.out _ D1.out).mono ?_); rintro e w2 ⟨A', c', rfl, hO2, hb2⟩; have P2 := Lib.hid (bkBelow P1.out hb2); have H2 := Lib.hid (bkBelow H1.out hb2); have B2 := bdT B1 B1.size hb2; have O2 := Lib.hid hO2; clear hO2 hb2)
    | (refine wpList_store_row rfl 24 (.tmp 6) (.tmp 22) rfl (w2.heap.size) (s.cs A' n c') rfl rfl 24 _ (heap_alloc_new w2 (Obj.cells #[Value.string ⟨#[]⟩, Value.slice none 0 0, iv 0, iv 0, iv 0, iv 0, iv 0, iv 0, iv 0, iv 0, iv 0, iv 0, iv 0] 24)) (S.i24 _ _ _ _) (S.sz S.zero s none _ 0 0 _ _) (S.one _ _ _ _) ?_))
  have K3 := below_setRow ((Below.refl w2.heap.size w2).alloc (Nat.le_refl _) (Obj.cells #[Value.string ⟨#[]⟩, Value.slice none 0 0, iv 0, iv 0, iv 0, iv 0, iv 0, iv 0, iv 0, iv 0, iv 0, iv 0, iv 0] 24)) (g := w2.heap.size) (Nat.le_refl _) (s.cs A' n c')
  have P3 := Lib.hid (bkBelow P2.out K3)
  have H3 := Lib.hid (bkBelow H2.out K3)
  have O3 := Lib.hid (ownV O2.out K3)
  have T3 := Lib.hid (setRow_heap _ _ _ (s.cs A' n c') _ _ (heap_alloc_new w2 (Obj.cells #[Value.string ⟨#[]⟩, Value.slice none 0 0, iv 0, iv 0, iv 0, iv 0, iv 0, iv 0, iv 0, iv 0, iv 0, iv 0, iv 0] 24)))
  have B3 := bdT B2 B2.size K3
  have HL := Lib.hid (ownLt O2.out)
  have HP2 := Lib.hid (bkLt P2.out)
  have HH2 := Lib.hid (bkLt H2.out)
  clear P2 H2 O2 B2 P0 H0 D0 B0 H1 D1 B1 P1 K3
  generalize (w2.alloc (Obj.cells #[Value.string ⟨#[]⟩, Value.slice none 0 0, iv 0, iv 0, iv 0, iv 0, iv 0, iv 0, iv 0, iv 0, iv 0, iv 0, iv 0] 24)).setRow w2.heap.size (s.cs A' n c') = w3 at *
  have t2 := (bkCell T3.out 2).trans (show _ = some (iv s.a2) from rfl)
  have u2 := bkFrozen T3.out 2
  go_upto_region 7 with (fail)
  have P4 := Lib.hid (bkFar P3.out (p := ⟨w2.heap.size, 2, none⟩) (by have := HP2.out; simp; omega) (iv 8))
  have H4 := Lib.hid (bkFar H3.out (p := ⟨w2.heap.size, 2, none⟩) (by have := HH2.out; simp; omega) (iv 8))
  have T4 := Lib.hid (bkPut T3.out 2 (iv 8) (show _ = (cvS s 8).cs A' n c' from rfl))
  have O4 := Lib.hid (ownVN O3.out (p := ⟨w2.heap.size, 2, none⟩) (fun k hk => Nat.ne_of_lt (HL.out k hk)) (iv 8))
  have B4 := B3.setCell (p := ⟨w2.heap.size, 2, none⟩) (Nat.le_of_lt HP2.out) (iv 8)
  clear t2 u2 P3 H3 T3 O3 B3
  generalize w3.setCell ⟨w2.heap.size, 2, none⟩ (iv 8) = w4 at *
  have t1 := (bkCell T4.out 1).trans (show _ = some (Value.slice A' n c') from rfl)
  go_upto_region 8 with (fail)
  clear t1
  go_loopw [28] (fun v wr => ∃ j : Nat, j ≤ n ∧ v = iv j ∧ wr.heap[w.heap.size]? = some (.cells (s.cs A n c0) 24 (0, 0)) ∧ wr.heap[w.heap.size + 1]? = some (.cells (S.zero.cs none 0 0) 24 (0, 0)) ∧ wr.heap[w2.heap.size]? = some (.cells ((cvS s 8).cs A' n c') 24 (0, 0)) ∧ wr.ownsRow w1.heap.size 3 1 (.slice A' n c') n (rw_ (upF (cvX 16 8) xs j) n) ∧ Below w.heap.size w wr) (fun v _ => n - (intOf v).toNat)
  case atStart => exact ⟨0, by omega, rfl, P4.out, H4.out, T4.out, ownN O4.out (by rw [upF_zero]), B4⟩
  case round =>
    clear P4 H4 T4 B4
    obtain ⟨j, hj, rfl, hP, hH, hT, hO, hB⟩ := hrel
    have NP := Lib.hid hP
    have NH := Lib.hid hH
    have NT := Lib.hid hT
    have NO := Lib.hid hO
    have l3 : (0 : Int) ≤ (j : Int) := by omega
    clear hP hH hT hO
    by_cases hlt : j < n
    · have l4 : (j : Int) < (n : Int) := by omega
      obtain ⟨A2, c2, g, e, hd, hform⟩ := ownDataV NO.out
      obtain ⟨rfl, rfl⟩ : A' = A2 ∧ c' = c2 := by simp only [Value.slice.injEq] at e; exact ⟨e.1, e.2.2⟩
      obtain ⟨rfl, hg⟩ : A' = some ⟨g, 0, none⟩ ∧ w1.heap.size ≤ g := by
        rcases hform with h | h
        · omega
        · exact h
      have HG := Lib.hid (show w1.heap.size ≤ g ∧ g < w2.heap.size ∧ w.heap.size < w1.heap.size ∧ w.heap.size + 1 < w1.heap.size from ⟨hg, HL.out g rfl, HP.out, HH.out⟩)
      have s4 : wr.cell? ⟨g, j, none⟩ = some (iv (xs j)) := ((NO.out.cellAt j (by omega)).trans (rw_at _ n j hlt)).trans (by rw [upF_at])
      clear hd hform hg e
      generalize hx : xs j = x at s4
      have HXJ := Lib.hid hx
      have bx := HX.out j hlt
      rw [hx] at bx
      clear hx
      have p2 := (bkCell NP.out 2).trans (show _ = some (iv s.a2) from rfl)
      rw [HA2.out] at p2
      have FC := Lib.hid fun (W : World) => rfloor_any x 256 (by omega) (by omega) (by omega) (by omega) W
      clear bx
      go_upto_region 10 with (fail)
      clear p2
      refine start_ (n := 11) (S := fun w' => w'.heap[w.heap.size]? = some (.cells (s.cs A n c0) 24 (0, 0)) ∧ w'.heap[w.heap.size + 1]? = some (.cells (S.zero.cs none 0 0) 24 (0, 0)) ∧ w'.heap[w2.heap.size]? = some (.cells ((cvS s 8).cs (some ⟨g, 0, none⟩) n c') 24 (0, 0)) ∧ w'.cell? ⟨g, j, none⟩ = some (iv x) ∧ w'.ownsRow w1.heap.size 3 1 (.slice (some ⟨g, 0, none⟩) n c') n (rw_ (upF (cvX 16 8) xs j) n) ∧ Below w.heap.size w w') (ds := [10]) #[false, false, false, false, false, false, false, false, false, false, false] (by kernel_rfl) rfl rfl ⟨NP.out, NH.out, NT.out, s4, NO.out.drew, hB.drew⟩ (fun hHeld => ?_)
      refine pure_ (i := 0) (N := some 31) (v := ?_) (a' := ?_) #[true, false, false, false, false, false, false, false, false, false, false] rfl rfl (by kernel_rfl) (fun _ _ _ h => h) (Or.inl ⟨by rfl, ?_⟩) ?_ ?_
      rotate_left
      · intro w'
        go_simp
        with_reducible rfl
      rotate_left
      · simp only [Act.put, List.setIfInBounds_toArray, List.set_cons_zero, List.set_cons_succ, i64_w, i32_w]
        rfl
      refine pure_ (i := 2) (N := some 33) (v := ?_) (a' := ?_) #[true, false, true, false, false, false, false, false, false, false, false] rfl rfl (by kernel_rfl) (fun _ _ _ h => h) (Or.inl ⟨by rfl, ?_⟩) ?_ ?_
      rotate_left
      · intro w'
        go_simp
        with_reducible rfl
      rotate_left
      · simp only [Act.put, List.setIfInBounds_toArray, List.set_cons_zero, List.set_cons_succ, i64_w, i32_w]
        rfl
      refine pure_ (i := 3) (N := some 34) (v := ?_) (a' := ?_) #[true, false, true, true, false, false, false, false, false, false, false] rfl rfl (by kernel_rfl) (fun _ _ _ h => h) (Or.inl ⟨by rfl, ?_⟩) ?_ ?_
      rotate_left
      · intro w'
        go_simp
        with_reducible rfl
      rotate_left
      · simp only [Act.put, List.setIfInBounds_toArray, List.set_cons_zero, List.set_cons_succ, i64_w, i32_w]
        rfl
      refine pure_ (i := 5) (N := some 36) (v := ?_) (a' := ?_) #[true, false, true, true, false, true, false, false, false, false, false] rfl rfl (by kernel_rfl) (fun _ _ _ h => h) (Or.inl ⟨by rfl, ?_⟩) ?_ ?_
      rotate_left
      · intro w'
        go_simp
        with_reducible rfl
      rotate_left
      · simp only [Act.put, List.setIfInBounds_toArray, List.set_cons_zero, List.set_cons_succ, i64_w, i32_w]
        rfl
      refine take_ (i := 1) (N := some 32) (v := ?_) (a' := ?_) #[true, true, true, true, false, true, false, false, false, false, false] rfl rfl (by kernel_rfl) (fun _ _ _ h => h) (Or.inl ⟨by rfl, ?_⟩) hHeld ?_ ?_
      rotate_left
      · rintro w' ⟨s0, s1, s2, s3, s4, s5⟩
        have q1 := (bkCell s2 1).trans (show _ = some (Value.slice (some ⟨g, 0, none⟩) n c') from rfl)
        clear s0 s1 s2 s3 s4 s5
        go_simp
        with_reducible rfl
      rotate_left
      · simp only [Act.put, List.setIfInBounds_toArray, List.set_cons_zero, List.set_cons_succ, i64_w, i32_w]
        rfl
      refine take_ (i := 4) (N := some 35) (v := ?_) (a' := ?_) #[true, true, true, true, true, true, false, false, false, false, false] rfl rfl (by kernel_rfl) (fun _ _ _ h => h) (Or.inl ⟨by rfl, ?_⟩) hHeld ?_ ?_
      rotate_left
      · rintro w' ⟨s0, s1, s2, s3, s4, s5⟩
        have q1 := (bkCell s2 1).trans (show _ = some (Value.slice (some ⟨g, 0, none⟩) n c') from rfl)
        clear s0 s1 s2 s3 s4 s5
        go_simp
        with_reducible rfl
      rotate_left
      · simp only [Act.put, List.setIfInBounds_toArray, List.set_cons_zero, List.set_cons_succ, i64_w, i32_w]
        rfl
      refine pure_ (i := 6) (N := some 37) (v := ?_) (a' := ?_) #[true, true, true, true, true, true, true, false, false, false, false] rfl rfl (by kernel_rfl) (fun _ _ _ h => h) (Or.inl ⟨by rfl, ?_⟩) ?_ ?_
      rotate_left
      · intro w'
        go_simp
        with_reducible rfl
      rotate_left
      · simp only [Act.put, List.setIfInBounds_toArray, List.set_cons_zero, List.set_cons_succ, i64_w, i32_w]
        rfl
      refine take_ (i := 7) (N := some 38) (v := ?_) (a' := ?_) #[true, true, true, true, true, true, true, true, false, false, false] rfl rfl (by kernel_rfl) (fun _ _ _ h => h) (Or.inl ⟨by rfl, ?_⟩) hHeld ?_ ?_
      rotate_left
      · rintro w' ⟨s0, s1, s2, s3, s4, s5⟩
        clear s0 s1 s2 s4 s5
        go_simp
        with_reducible rfl
      rotate_left
      · simp only [Act.put, List.setIfInBounds_toArray, List.set_cons_zero, List.set_cons_succ, i64_w, i32_w]
        rfl
      refine one_ (i := 8) (N := some 39) #[true, true, true, true, true, true, true, true, true, false, false] rfl rfl (by kernel_rfl) (by decide) (fun K hK => ?_)
      obtain ⟨s0, s1, s2, s3, s4, s5⟩ := hHeld
      refine goes_ Try.func82 (by kernel_rfl) rfl #[iv x, iv 256] (by rfl) rfl rfl (by simp only [List.map_toArray, List.map_cons, List.map_nil]; rfl) ?_
      with_reducible refine (FC.out _).mono ?_
      rintro e w5 ⟨rfl, rfl⟩
      refine ⟨_, rfl, ?_⟩
      refine hK.out _ _ ⟨s0, s1, s2, s3, s4, s5⟩ (fun hHeld => ?_)
      clear hK K
      refine norm_ (a' := ?_) ?_ ?_
      rotate_left
      · show Act.put _ (some 39) _ = _
        simp only [Act.put, List.setIfInBounds_toArray, List.set_cons_zero, List.set_cons_succ, i64_w, i32_w]
        rfl
      refine pure_ (i := 9) (N := some 40) (v := ?_) (a' := ?_) #[true, true, true, true, true, true, true, true, true, true, false] rfl rfl (by kernel_rfl) (fun _ _ _ h => h) (Or.inl ⟨by rfl, ?_⟩) ?_ ?_
      rotate_left
      · intro w'
        go_simp
        with_reducible rfl
      rotate_left
      · simp only [Act.put, List.setIfInBounds_toArray, List.set_cons_zero, List.set_cons_succ, i64_w, i32_w]
        rfl
      refine last_ (i := 10) (N := none) #[true, true, true, true, true, true, true, true, true, true, true] rfl rfl (by kernel_rfl) (by decide) (fun K hK => ?_)
      obtain ⟨P5, H5, T5, s5, O5, B5⟩ := hHeld
      have z5 := O5.frozenAt j
      have N5 := Lib.hid (And.intro P5 (And.intro H5 (And.intro T5 (And.intro O5 B5))))
      clear P5 H5 T5 O5 B5
      refine skip_ (w1 := ?_) (by rfl) rfl ?_ ?_
      rotate_left
      · go_simp
        rfl
      refine hK.out _ _ ?_
      clear hK K
      refine done_ (by kernel_rfl) ?_
      obtain ⟨P5, H5, T5, O5, B5⟩ := N5.out
      have P6 := Lib.hid (bkFar P5 (p := ⟨g, j, none⟩) (by have := HG.out; simp; omega) (iv (x / 256)))
      have H6 := Lib.hid (bkFar H5 (p := ⟨g, j, none⟩) (by have := HG.out; simp; omega) (iv (x / 256)))
      have T6 := Lib.hid (bkFar T5 (p := ⟨g, j, none⟩) (by have := HG.out; simp; omega) (iv (x / 256)))
      have O6 := Lib.hid (ownN (O5.stored j (iv (x / 256))).1 ((rw_set _ n j _).trans ((show rw_ _ n = rw_ (fun i => if i = j then cvX 16 8 (xs j) else upF (cvX 16 8) xs j i) n by rw [HXJ.out]; rfl).trans (upF_step (cvX 16 8) xs n j))))
      have B6 := B5.setCell (p := ⟨g, j, none⟩) (by have := HG.out; simp; omega) (iv (x / 256))
      clear P5 H5 T5 O5 B5 s5 z5 N5
      go_wp2
      exact ⟨⟨j + 1, by omega, by go_num, P6.out, H6.out, T6.out, O6.out, B6⟩, by simp [intOf]; omega⟩
    · obtain rfl : j = n := by omega
      go_upto_region 15 with (fail)
      go_wp2_with (first
        | (refine wpList_load_row rfl 24 (.tmp 6) rfl (w2.heap.size) rfl 24 _ (0, 0) _ NT.out Try.underlying24 rfl (S.i24 _ _ _ _) ?_)
        | (refine wpList_store_row rfl 24 (.tmp 4) (.tmp 57) rfl (w.heap.size + 1) ((cvS s 8).cs A' j c') rfl rfl 24 _ NH.out (S.i24 _ _ _ _) (S.sz S.zero _ none _ 0 0 _ _) (S.one _ _ _ _) ?_))
      refine bodyPost_ret (res_ct rfl _ _ (w.heap.size + 1) 24 _ (0, 0) _ rfl (setRow_heap _ _ _ _ _ _ NH.out) Try.underlying24 rfl (S.i24 _ _ _ _)) rfl ⟨A', c', rfl, ownN (ownBase2 (ownVR NO.out HH.out _) (Nat.le_of_lt HP.out)) (by rw [upF_end]; show _ = rw_ (cvF s.a2 8 xs) _; rw [HA2.out]; rfl), below_setRow hB (by omega) _⟩
set_option maxHeartbeats 16000000 in
set_option maxRecDepth 100000 in
theorem rconv_e8 (s : S) (A : Option Addr) (n c0 b o : Nat) (xs : Nat → Int)  (hv : vS s n xs = true) (hN : A = none → c0 = 0) (ha2 : s.a2 = 8) (hn : n ≤ 9223372036854775807) (hc0 : n ≤ c0) (w : World) (hA : DataAt w A n b o xs) : Gives 39 #[.agg (s.cs A n c0), iv 8] w (cvS s 8) n (cvF s.a2 8 xs) 0 := by
  unfold Gives
  have H0 := Lib.hid (show ((w.alloc (Obj.cells (s.cs A n c0) 24)).alloc (Obj.cells #[Value.string ⟨#[]⟩, Value.slice none 0 0, iv 0, iv 0, iv 0, iv 0, iv 0, iv 0, iv 0, iv 0, iv 0, iv 0, iv 0] 24)).heap[w.heap.size + 1]? = some (.cells (S.zero.cs none 0 0) 24 (0, 0)) from heap_alloc2_new w (Obj.cells (s.cs A n c0) 24) (Obj.cells #[Value.string ⟨#[]⟩, Value.slice none 0 0, iv 0, iv 0, iv 0, iv 0, iv 0, iv 0, iv 0, iv 0, iv 0, iv 0, iv 0] 24))
  have B0 : Below w.heap.size w ((w.alloc (Obj.cells (s.cs A n c0) 24)).alloc (Obj.cells #[Value.string ⟨#[]⟩, Value.slice none 0 0, iv 0, iv 0, iv 0, iv 0, iv 0, iv 0, iv 0, iv 0, iv 0, iv 0, iv 0] 24)) := ((Below.refl _ _).alloc (Nat.le_refl _) _).alloc (by simp) _
  have P0 := Lib.hid (show ((w.alloc (Obj.cells (s.cs A n c0) 24)).alloc (Obj.cells #[Value.string ⟨#[]⟩, Value.slice none 0 0, iv 0, iv 0, iv 0, iv 0, iv 0, iv 0, iv 0, iv 0, iv 0, iv 0, iv 0] 24)).heap[w.heap.size]? = some (.cells (s.cs A n c0) 24 (0, 0)) from heap_alloc2_old w _ _)
  have D0 := Lib.hid (hA.later B0)
  have VC := Lib.hid (show ∀ (W : World), DataAt W A n b o xs → Calls Try.prog 25 #[.agg (s.cs A n c0)] W fun e w' => e = .returned (.bool true) ∧ Below W.heap.size W w' from fun W h => by have := rvalid_any s A n c0 b o xs hn hc0 W h; rwa [hv] at this)
  obtain ⟨_, _, n4, _, _, _, l7, l10⟩ := vS_yes hv
  unfold LpOk at l7 l10
  have HN := Lib.hid n4
  have HX := Lib.hid (vS_frames hv)
  have OC := Lib.hid fun (W : World) (h : DataAt W A n b o xs) => fresh_any s A n c0 b o xs (by omega) hN W h
  have HA2 := Lib.hid ha2
  clear hA hv l7 l10 ha2
  go_enter Try.func39, Try.ntmps39
  go_upto_region 5 with (first
    | (refine wpList_load_row rfl 24 (.tmp 2) rfl (w.heap.size) rfl 24 _ (0, 0) _ P0.out Try.underlying24 rfl (S.i24 _ _ _ _) ?_)
    | (go_at_call 25; (with_reducible refine (VC.out _ D0.out).mono ?_); rintro e w1 ⟨rfl, hb1⟩; have P1 := Lib.hid (bkBelow P0.out hb1); have H1 := Lib.hid (bkBelow H0.out hb1); have D1 := Lib.hid (D0.out.later hb1); have B1 := bdT B0 B0.size hb1))
  have HP := Lib.hid (bkLt P1.out)
  have HH := Lib.hid (bkLt H1.out)
  go_upto_region 6 with (first
    | (refine wpList_load_row rfl 24 (.tmp 2) rfl (w.heap.size) rfl 24 _ (0, 0) _ P1.out Try.underlying24 rfl (S.i24 _ _ _ _) ?_)
    | (go_at_call 79; (with_reducible refine (OC.out _ D1.out).mono ?_); rintro e w2 ⟨A', c', rfl, hO2, hb2⟩; have P2 := Lib.hid (bkBelow P1.out hb2); have H2 := Lib.hid (bkBelow H1.out hb2); have B2 := bdT B1 B1.size hb2; have O2 := Lib.hid hO2; clear hO2 hb2)
    | (refine wpList_store_row rfl 24 (.tmp 6) (.tmp 22) rfl (w2.heap.size) (s.cs A' n c') rfl rfl 24 _ (heap_alloc_new w2 (Obj.cells #[Value.string ⟨#[]⟩, Value.slice none 0 0, iv 0, iv 0, iv 0, iv 0, iv 0, iv 0, iv 0, iv 0, iv 0, iv 0, iv 0] 24)) (S.i24 _ _ _ _) (S.sz S.zero s none _ 0 0 _ _) (S.one _ _ _ _) ?_))
  have K3 := below_setRow ((Below.refl w2.heap.size w2).alloc (Nat.le_refl _) (Obj.cells #[Value.string ⟨#[]⟩, Value.slice none 0 0, iv 0, iv 0, iv 0, iv 0, iv 0, iv 0, iv 0, iv 0, iv 0, iv 0, iv 0] 24)) (g := w2.heap.size) (Nat.le_refl _) (s.cs A' n c')
  have P3 := Lib.hid (bkBelow P2.out K3)
  have H3 := Lib.hid (bkBelow H2.out K3)
  have O3 := Lib.hid (ownV O2.out K3)
  have T3 := Lib.hid (setRow_heap _ _ _ (s.cs A' n c') _ _ (heap_alloc_new w2 (Obj.cells #[Value.string ⟨#[]⟩, Value.slice none 0 0, iv 0, iv 0, iv 0, iv 0, iv 0, iv 0, iv 0, iv 0, iv 0, iv 0, iv 0] 24)))
  have B3 := bdT B2 B2.size K3
  have HL := Lib.hid (ownLt O2.out)
  have HP2 := Lib.hid (bkLt P2.out)
  have HH2 := Lib.hid (bkLt H2.out)
  clear P2 H2 O2 B2 P0 H0 D0 B0 H1 D1 B1 P1 K3
  generalize (w2.alloc (Obj.cells #[Value.string ⟨#[]⟩, Value.slice none 0 0, iv 0, iv 0, iv 0, iv 0, iv 0, iv 0, iv 0, iv 0, iv 0, iv 0, iv 0] 24)).setRow w2.heap.size (s.cs A' n c') = w3 at *
  have t2 := (bkCell T3.out 2).trans (show _ = some (iv s.a2) from rfl)
  have u2 := bkFrozen T3.out 2
  go_upto_region 7 with (fail)
  have P4 := Lib.hid (bkFar P3.out (p := ⟨w2.heap.size, 2, none⟩) (by have := HP2.out; simp; omega) (iv 8))
  have H4 := Lib.hid (bkFar H3.out (p := ⟨w2.heap.size, 2, none⟩) (by have := HH2.out; simp; omega) (iv 8))
  have T4 := Lib.hid (bkPut T3.out 2 (iv 8) (show _ = (cvS s 8).cs A' n c' from rfl))
  have O4 := Lib.hid (ownVN O3.out (p := ⟨w2.heap.size, 2, none⟩) (fun k hk => Nat.ne_of_lt (HL.out k hk)) (iv 8))
  have B4 := B3.setCell (p := ⟨w2.heap.size, 2, none⟩) (Nat.le_of_lt HP2.out) (iv 8)
  clear t2 u2 P3 H3 T3 O3 B3
  generalize w3.setCell ⟨w2.heap.size, 2, none⟩ (iv 8) = w4 at *
  have t1 := (bkCell T4.out 1).trans (show _ = some (Value.slice A' n c') from rfl)
  go_upto_region 8 with (fail)
  clear t1
  go_loopw [28] (fun v wr => ∃ j : Nat, j ≤ n ∧ v = iv j ∧ wr.heap[w.heap.size]? = some (.cells (s.cs A n c0) 24 (0, 0)) ∧ wr.heap[w.heap.size + 1]? = some (.cells (S.zero.cs none 0 0) 24 (0, 0)) ∧ wr.heap[w2.heap.size]? = some (.cells ((cvS s 8).cs A' n c') 24 (0, 0)) ∧ wr.ownsRow w1.heap.size 3 1 (.slice A' n c') n (rw_ (upF (cvX 8 8) xs j) n) ∧ Below w.heap.size w wr) (fun v _ => n - (intOf v).toNat)
  case atStart => exact ⟨0, by omega, rfl, P4.out, H4.out, T4.out, ownN O4.out (by rw [upF_zero]), B4⟩
  case round =>
    clear P4 H4 T4 B4
    obtain ⟨j, hj, rfl, hP, hH, hT, hO, hB⟩ := hrel
    have NP := Lib.hid hP
    have NH := Lib.hid hH
    have NT := Lib.hid hT
    have NO := Lib.hid hO
    have l3 : (0 : Int) ≤ (j : Int) := by omega
    clear hP hH hT hO
    by_cases hlt : j < n
    · have l4 : (j : Int) < (n : Int) := by omega
      obtain ⟨A2, c2, g, e, hd, hform⟩ := ownDataV NO.out
      obtain ⟨rfl, rfl⟩ : A' = A2 ∧ c' = c2 := by simp only [Value.slice.injEq] at e; exact ⟨e.1, e.2.2⟩
      obtain ⟨rfl, hg⟩ : A' = some ⟨g, 0, none⟩ ∧ w1.heap.size ≤ g := by
        rcases hform with h | h
        · omega
        · exact h
      have HG := Lib.hid (show w1.heap.size ≤ g ∧ g < w2.heap.size ∧ w.heap.size < w1.heap.size ∧ w.heap.size + 1 < w1.heap.size from ⟨hg, HL.out g rfl, HP.out, HH.out⟩)
      have s4 : wr.cell? ⟨g, j, none⟩ = some (iv (xs j)) := ((NO.out.cellAt j (by omega)).trans (rw_at _ n j hlt)).trans (by rw [upF_at])
      clear hd hform hg e
      generalize hx : xs j = x at s4
      have HXJ := Lib.hid hx
      have bx := HX.out j hlt
      rw [hx] at bx
      clear hx
      have p2 := (bkCell NP.out 2).trans (show _ = some (iv s.a2) from rfl)
      rw [HA2.out] at p2
      clear bx
      go_wp2
      exact ⟨⟨j + 1, by omega, by go_num, NP.out, NH.out, NT.out, ownN NO.out (upF_same (show cvX 8 8 (xs j) = xs j from by rw [HXJ.out]; rfl) n), hB⟩, by simp [intOf]; omega⟩
    · obtain rfl : j = n := by omega
      go_upto_region 15 with (fail)
      go_wp2_with (first
        | (refine wpList_load_row rfl 24 (.tmp 6) rfl (w2.heap.size) rfl 24 _ (0, 0) _ NT.out Try.underlying24 rfl (S.i24 _ _ _ _) ?_)
        | (refine wpList_store_row rfl 24 (.tmp 4) (.tmp 57) rfl (w.heap.size + 1) ((cvS s 8).cs A' j c') rfl rfl 24 _ NH.out (S.i24 _ _ _ _) (S.sz S.zero _ none _ 0 0 _ _) (S.one _ _ _ _) ?_))
      refine bodyPost_ret (res_ct rfl _ _ (w.heap.size + 1) 24 _ (0, 0) _ rfl (setRow_heap _ _ _ _ _ _ NH.out) Try.underlying24 rfl (S.i24 _ _ _ _)) rfl ⟨A', c', rfl, ownN (ownBase2 (ownVR NO.out HH.out _) (Nat.le_of_lt HP.out)) (by rw [upF_end]; show _ = rw_ (cvF s.a2 8 xs) _; rw [HA2.out]; rfl), below_setRow hB (by omega) _⟩
set_option maxHeartbeats 16000000 in
set_option maxRecDepth 100000 in
theorem rconv_e16 (s : S) (A : Option Addr) (n c0 b o : Nat) (xs : Nat → Int)  (hv : vS s n xs = true) (hN : A = none → c0 = 0) (ha2 : s.a2 = 16) (hn : n ≤ 9223372036854775807) (hc0 : n ≤ c0) (w : World) (hA : DataAt w A n b o xs) : Gives 39 #[.agg (s.cs A n c0), iv 16] w (cvS s 16) n (cvF s.a2 16 xs) 0 := by
  unfold Gives
  have H0 := Lib.hid (show ((w.alloc (Obj.cells (s.cs A n c0) 24)).alloc (Obj.cells #[Value.string ⟨#[]⟩, Value.slice none 0 0, iv 0, iv 0, iv 0, iv 0, iv 0, iv 0, iv 0, iv 0, iv 0, iv 0, iv 0] 24)).heap[w.heap.size + 1]? = some (.cells (S.zero.cs none 0 0) 24 (0, 0)) from heap_alloc2_new w (Obj.cells (s.cs A n c0) 24) (Obj.cells #[Value.string ⟨#[]⟩, Value.slice none 0 0, iv 0, iv 0, iv 0, iv 0, iv 0, iv 0, iv 0, iv 0, iv 0, iv 0, iv 0] 24))
  have B0 : Below w.heap.size w ((w.alloc (Obj.cells (s.cs A n c0) 24)).alloc (Obj.cells #[Value.string ⟨#[]⟩, Value.slice none 0 0, iv 0, iv 0, iv 0, iv 0, iv 0, iv 0, iv 0, iv 0, iv 0, iv 0, iv 0] 24)) := ((Below.refl _ _).alloc (Nat.le_refl _) _).alloc (by simp) _
  have P0 := Lib.hid (show ((w.alloc (Obj.cells (s.cs A n c0) 24)).alloc (Obj.cells #[Value.string ⟨#[]⟩, Value.slice none 0 0, iv 0, iv 0, iv 0, iv 0, iv 0, iv 0, iv 0, iv 0, iv 0, iv 0, iv 0] 24)).heap[w.heap.size]? = some (.cells (s.cs A n c0) 24 (0, 0)) from heap_alloc2_old w _ _)
  have D0 := Lib.hid (hA.later B0)
  have VC := Lib.hid (show ∀ (W : World), DataAt W A n b o xs → Calls Try.prog 25 #[.agg (s.cs A n c0)] W fun e w' => e = .returned (.bool true) ∧ Below W.heap.size W w' from fun W h => by have := rvalid_any s A n c0 b o xs hn hc0 W h; rwa [hv] at this)
  obtain ⟨_, _, n4, _, _, _, l7, l10⟩ := vS_yes hv
  unfold LpOk at l7 l10
  have HN := Lib.hid n4
  have HX := Lib.hid (vS_frames hv)
  have OC := Lib.hid fun (W : World) (h : DataAt W A n b o xs) => fresh_any s A n c0 b o xs (by omega) hN W h
  have HA2 := Lib.hid ha2
  clear hA hv l7 l10 ha2
  go_enter Try.func39, Try.ntmps39
  go_upto_region 5 with (first
    | (refine wpList_load_row rfl 24 (.tmp 2) rfl (w.heap.size) rfl 24 _ (0, 0) _ P0.out Try.underlying24 rfl (S.i24 _ _ _ _) ?_)
    | (go_at_call 25; (with_reducible refine (VC.out _ D0.out).mono ?_); rintro e w1 ⟨rfl, hb1⟩; have P1 := Lib.hid (bkBelow P0.out hb1); have H1 := Lib.hid (bkBelow H0.out hb1); have D1 := Lib.hid (D0.out.later hb1); have B1 := bdT B0 B0.size hb1))
  have HP := Lib.hid (bkLt P1.out)
  have HH := Lib.hid (bkLt H1.out)
  go_upto_region 6 with (first
    | (refine wpList_load_row rfl 24 (.tmp 2) rfl (w.heap.size) rfl 24 _ (0, 0) _ P1.out Try.underlying24 rfl (S.i24 _ _ _ _) ?_)
    | (go_at_call 79; (with_reducible refine (OC.out _ D1.out).mono ?_); rintro e w2 ⟨A', c', rfl, hO2, hb2⟩; have P2 := Lib.hid (bkBelow P1.out hb2); have H2 := Lib.hid (bkBelow H1.out hb2); have B2 := bdT B1 B1.size hb2; have O2 := Lib.hid hO2; clear hO2 hb2)
    | (refine wpList_store_row rfl 24 (.tmp 6) (.tmp 22) rfl (w2.heap.size) (s.cs A' n c') rfl rfl 24 _ (heap_alloc_new w2 (Obj.cells #[Value.string ⟨#[]⟩, Value.slice none 0 0, iv 0, iv 0, iv 0, iv 0, iv 0, iv 0, iv 0, iv 0, iv 0, iv 0, iv 0] 24)) (S.i24 _ _ _ _) (S.sz S.zero s none _ 0 0 _ _) (S.one _ _ _ _) ?_))
  have K3 := below_setRow ((Below.refl w2.heap.size w2).alloc (Nat.le_refl _) (Obj.cells #[Value.string ⟨#[]⟩, Value.slice none 0 0, iv 0, iv 0, iv 0, iv 0, iv 0, iv 0, iv 0, iv 0, iv 0, iv 0, iv 0] 24)) (g := w2.heap.size) (Nat.le_refl _) (s.cs A' n c')
  have P3 := Lib.hid (bkBelow P2.out K3)
  have H3 := Lib.hid (bkBelow H2.out K3)
  have O3 := Lib.hid (ownV O2.out K3)
  have T3 := Lib.hid (setRow_heap _ _ _ (s.cs A' n c') _ _ (heap_alloc_new w2 (Obj.cells #[Value.string ⟨#[]⟩, Value.slice none 0 0, iv 0, iv 0, iv 0, iv 0, iv 0, iv 0, iv 0, iv 0, iv 0, iv 0, iv 0] 24)))
  have B3 := bdT B2 B2.size K3
  have HL := Lib.hid (ownLt O2.out)
  have HP2 := Lib.hid (bkLt P2.out)
  have HH2 := Lib.hid (bkLt H2.out)
  clear P2 H2 O2 B2 P0 H0 D0 B0 H1 D1 B1 P1 K3
  generalize (w2.alloc (Obj.cells #[Value.string ⟨#[]⟩, Value.slice none 0 0, iv 0, iv 0, iv 0, iv 0, iv 0, iv 0, iv 0, iv 0, iv 0, iv 0, iv 0] 24)).setRow w2.heap.size (s.cs A' n c') = w3 at *
  have t2 := (bkCell T3.out 2).trans (show _ = some (iv s.a2) from rfl)
  have u2 := bkFrozen T3.out 2
  go_upto_region 7 with (fail)
  have P4 := Lib.hid (bkFar P3.out (p := ⟨w2.heap.size, 2, none⟩) (by have := HP2.out; simp; omega) (iv 16))
  have H4 := Lib.hid (bkFar H3.out (p := ⟨w2.heap.size, 2, none⟩) (by have := HH2.out; simp; omega) (iv 16))
  have T4 := Lib.hid (bkPut T3.out 2 (iv 16) (show _ = (cvS s 16).cs A' n c' from rfl))
  have O4 := Lib.hid (ownVN O3.out (p := ⟨w2.heap.size, 2, none⟩) (fun k hk => Nat.ne_of_lt (HL.out k hk)) (iv 16))
  have B4 := B3.setCell (p := ⟨w2.heap.size, 2, none⟩) (Nat.le_of_lt HP2.out) (iv 16)
  clear t2 u2 P3 H3 T3 O3 B3
  generalize w3.setCell ⟨w2.heap.size, 2, none⟩ (iv 16) = w4 at *
  have t1 := (bkCell T4.out 1).trans (show _ = some (Value.slice A' n c') from rfl)
  go_upto_region 8 with (fail)
  clear t1
  go_loopw [28] (fun v wr => ∃ j : Nat, j ≤ n ∧ v = iv j ∧ wr.heap[w.heap.size]? = some (.cells (s.cs A n c0) 24 (0, 0)) ∧ wr.heap[w.heap.size + 1]? = some (.cells (S.zero.cs none 0 0) 24 (0, 0)) ∧ wr.heap[w2.heap.size]? = some (.cells ((cvS s 16).cs A' n c') 24 (0, 0)) ∧ wr.ownsRow w1.heap.size 3 1 (.slice A' n c') n (rw_ (upF (cvX 16 16) xs j) n) ∧ Below w.heap.size w wr) (fun v _ => n - (intOf v).toNat)
  case atStart => exact ⟨0, by omega, rfl, P4.out, H4.out, T4.out, ownN O4.out (by rw [upF_zero]), B4⟩
  case round =>
    clear P4 H4 T4 B4
    obtain ⟨j, hj, rfl, hP, hH, hT, hO, hB⟩ := hrel
    have NP := Lib.hid hP
    have NH := Lib.hid hH
    have NT := Lib.hid hT
    have NO := Lib.hid hO
    have l3 : (0 : Int) ≤ (j : Int) := by omega
    clear hP hH hT hO
    by_cases hlt : j < n
    · have l4 : (j : Int) < (n : Int) := by omega
      obtain ⟨A2, c2, g, e, hd, hform⟩ := ownDataV NO.out
      obtain ⟨rfl, rfl⟩ : A' = A2 ∧ c' = c2 := by simp only [Value.slice.injEq] at e; exact ⟨e.1, e.2.2⟩
      obtain ⟨rfl, hg⟩ : A' = some ⟨g, 0, none⟩ ∧ w1.heap.size ≤ g := by
        rcases hform with h | h
        · omega
        · exact h
      have HG := Lib.hid (show w1.heap.size ≤ g ∧ g < w2.heap.size ∧ w.heap.size < w1.heap.size ∧ w.heap.size + 1 < w1.heap.size from ⟨hg, HL.out g rfl, HP.out, HH.out⟩)
      have s4 : wr.cell? ⟨g, j, none⟩ = some (iv (xs j)) := ((NO.out.cellAt j (by omega)).trans (rw_at _ n j hlt)).trans (by rw [upF_at])
      clear hd hform hg e
      generalize hx : xs j = x at s4
      have HXJ := Lib.hid hx
      have bx := HX.out j hlt
      rw [hx] at bx
      clear hx
      have p2 := (bkCell NP.out 2).trans (show _ = some (iv s.a2) from rfl)
      rw [HA2.out] at p2
      clear bx
      go_wp2
      exact ⟨⟨j + 1, by omega, by go_num, NP.out, NH.out, NT.out, ownN NO.out (upF_same (show cvX 16 16 (xs j) = xs j from by rw [HXJ.out]; rfl) n), hB⟩, by simp [intOf]; omega⟩
    · obtain rfl : j = n := by omega
      go_upto_region 15 with (fail)
      go_wp2_with (first
        | (refine wpList_load_row rfl 24 (.tmp 6) rfl (w2.heap.size) rfl 24 _ (0, 0) _ NT.out Try.underlying24 rfl (S.i24 _ _ _ _) ?_)
        | (refine wpList_store_row rfl 24 (.tmp 4) (.tmp 57) rfl (w.heap.size + 1) ((cvS s 16).cs A' j c') rfl rfl 24 _ NH.out (S.i24 _ _ _ _) (S.sz S.zero _ none _ 0 0 _ _) (S.one _ _ _ _) ?_))
      refine bodyPost_ret (res_ct rfl _ _ (w.heap.size + 1) 24 _ (0, 0) _ rfl (setRow_heap _ _ _ _ _ _ NH.out) Try.underlying24 rfl (S.i24 _ _ _ _)) rfl ⟨A', c', rfl, ownN (ownBase2 (ownVR NO.out HH.out _) (Nat.le_of_lt HP.out)) (by rw [upF_end]; show _ = rw_ (cvF s.a2 16 xs) _; rw [HA2.out]; rfl), below_setRow hB (by omega) _⟩
theorem rconv_ok (s : S) (A : Option Addr) (n c0 b o : Nat) (xs : Nat → Int) (bits : Int) (hb2 : bits = 8 ∨ bits = 16) (hv : vS s n xs = true) (hN : A = none → c0 = 0) (hn : n ≤ 9223372036854775807) (hc0 : n ≤ c0) (w : World) (hA : DataAt w A n b o xs) : Gives 39 #[.agg (s.cs A n c0), iv bits] w (cvS s bits) n (cvF s.a2 bits xs) 0 := by
  rcases hb2 with rfl | rfl <;> rcases (vS_yes hv).2.1 with h | h
  · exact rconv_e8 s A n c0 b o xs hv hN h hn hc0 w hA
  · exact rconv_dn s A n c0 b o xs hv hN h hn hc0 w hA
  · exact rconv_up s A n c0 b o xs hv hN h hn hc0 w hA
  · exact rconv_e16 s A n c0 b o xs hv hN h hn hc0 w hA
end Go.Proofs.Ytnmoiolddfboiaa.SX

/- A sample with frames of its own, and turned round. -/
import Derived.Test.YtnmoiolddfboiaaSxI
import Derived.Test.YtnmoiolddfboiaaSxO
import Derived.Test.YtnmoiolddfboiaaSxP
import Derived.Laws.AppendOwn
import Derived.Ground.NamesProg
import Derived.Shelf.Lay
import Derived.Shelf.Slices.Reverse
import Derived.Lib.OwnBridge
namespace Go.Proofs
open Go.Shelf
shelf_lay Lays.n112 Nm 112 at Try as Try.laysReverse
end Go.Proofs
namespace Go.Proofs.Ytnmoiolddfboiaa.SX
open Go.RowKit Go.Proofs.YtnmoiolddfboiaaW.PrintLast Go.Proofs.Ytnmoiolddfboiaa.TX Go.Proofs.Ytnmoiolddfboiaa.Cu
set_option linter.unusedVariables false
set_option linter.unusedSimpArgs false
theorem ownVC {w : World} {B n : Nat} {v : Value} {xs : List Value} (h : w.ownsRow B 3 1 v n xs) {p : Addr} (hp : p.block < B) (u : Value) : (w.setCell p u).ownsRow B 3 1 v n xs := by
  refine ⟨h.1, ?_⟩
  rcases h.2 with h' | ⟨g', cap', cur, h', h1, hg, h2⟩
  · exact .inl h'
  · exact .inr ⟨g', cap', cur, h', h1, bkFar hg (by omega) u, h2⟩
/-- an own row turned round -/
theorem rev_own (B n c : Nat) (A : Option Addr) (F : Nat → Int) (w : World) (h : w.ownsRow B 3 1 (.slice A n c) n (rw_ F n)) (hn : n ≤ 1000000) (w0 : World) (hB : Below B w0 w) :
    Calls Try.prog 75 #[.slice A n c] w fun e w' => e = .returned (.tuple #[]) ∧ w'.ownsRow B 3 1 (.slice A n c) n (rw_ (fun i => F (n - 1 - i)) n) ∧ Below B w0 w' := by
  rcases Nat.eq_zero_or_pos n with h0 | h0
  · subst h0
    refine (Any.slices_Reverse_int_empty Try.laysReverse A c w).mono ?_
    rintro e w' ⟨rfl, rfl⟩
    exact ⟨rfl, ownN h (by simp [rw_]), hB⟩
  · have hv : (Value.slice A n c) ≠ .slice none 0 0 := by
      intro hh
      simp only [Value.slice.injEq] at hh
      omega
    have hr : rw_ F n = ((List.range n).map F).map (Value.int .i64) := by
      unfold rw_
      rw [List.map_map]
      rfl
    have h2 := h
    rw [hr] at h2
    obtain ⟨g, cap, hvv, hbg, _, _, hcm, hlen, hH⟩ := Lib.holds_of_ownsRow h2 hv
    simp only [Value.slice.injEq] at hvv
    obtain ⟨rfl, _, rfl⟩ := hvv
    have hrev := Any.slices_Reverse_int Try.laysReverse g 0 c ((List.range n).map F) w hH (by simp; omega)
    rw [hlen] at hrev
    refine Calls.mono hrev ?_
    rintro e w' ⟨rfl, q, rfl⟩
    have hy : ((List.range n).map F).reverse.length = n := by simp
    have h1 := Lib.ownsRow_putRow (q := q) (ys := ((List.range n).map F).reverse) h2 hy (Nat.le_refl n)
    rw [List.take_of_length_le (Nat.le_of_eq hy)] at h1
    refine ⟨rfl, ownN h1 ?_, Lib.below_putRow hB hbg⟩
    apply List.ext_getElem?
    intro i
    rcases Nat.lt_or_ge i n with hi | hi
    · rw [rw_at _ _ _ hi, List.getElem?_map, List.getElem?_reverse (by simpa using hi)]
      simp [show n - 1 - i < n by omega]
    · rw [List.getElem?_eq_none (by simpa using hi), List.getElem?_eq_none (by rw [rw_len]; exact hi)]
set_option maxHeartbeats 16000000 in
set_option maxRecDepth 100000 in
theorem own_any (s : S) (A : Option Addr) (n c b o : Nat) (xs : Nat → Int) (hn : n ≤ 1000000) (w : World) (hA : DataAt w A n b o xs) :
    Calls Try.prog 74 #[.agg (s.cs A n c)] w fun e w' => ∃ A' c', e = .returned (.agg (s.cs A' n c')) ∧ w'.ownsRow w.heap.size 3 1 (.slice A' n c') n (rw_ xs n) ∧ Below w.heap.size w w' := by
  have B0 : Below w.heap.size w ((w.alloc (Obj.cells (s.cs A n c) 24)).alloc (Obj.cells #[Value.string ⟨#[]⟩, Value.slice none 0 0, iv 0, iv 0, iv 0, iv 0, iv 0, iv 0, iv 0, iv 0, iv 0, iv 0, iv 0] 24)) := ((Below.refl _ _).alloc (Nat.le_refl _) _).alloc (by simp) _
  have P0 := Lib.hid (heap_alloc2_old w (Obj.cells (s.cs A n c) 24) (Obj.cells #[Value.string ⟨#[]⟩, Value.slice none 0 0, iv 0, iv 0, iv 0, iv 0, iv 0, iv 0, iv 0, iv 0, iv 0, iv 0, iv 0] 24))
  have Q0 := Lib.hid (heap_alloc2_new w (Obj.cells (s.cs A n c) 24) (Obj.cells #[Value.string ⟨#[]⟩, Value.slice none 0 0, iv 0, iv 0, iv 0, iv 0, iv 0, iv 0, iv 0, iv 0, iv 0, iv 0, iv 0] 24))
  have CL := Lib.hid (clone_any A n c b o xs hn ((w.alloc (Obj.cells (s.cs A n c) 24)).alloc (Obj.cells #[Value.string ⟨#[]⟩, Value.slice none 0 0, iv 0, iv 0, iv 0, iv 0, iv 0, iv 0, iv 0, iv 0, iv 0, iv 0, iv 0] 24)) (hA.later B0))
  have y1 : (s.cs A n c)[1]? = some (Value.slice A n c) := rfl
  clear hA
  go_enter Try.func74, Try.ntmps74
  go_upto_region 2 with (go_at_call 76; (with_reducible refine CL.out.mono ?_); rintro e w1 ⟨v, rfl, hO, hb1⟩; obtain ⟨A', c', g', rfl, _, _⟩ := ownDataV hO; have P1 := Lib.hid (bkBelow P0.out hb1); have Q1 := Lib.hid (bkBelow Q0.out hb1); have B1 := bdT B0 B0.size hb1; have O1 := Lib.hid hO; have p1 := (bkCell P1.out 1).trans (show _ = some (Value.slice A n c) from rfl); have f1 := bkFrozen P1.out 1; clear hO hb1)
  have P2 := Lib.hid (bkPut P1.out 1 (.slice A' n c') (S.set1 s A A' n c n c'))
  have Q2 := Lib.hid (bkFar Q1.out (p := ⟨w.heap.size, 1, none⟩) (by simp) (.slice A' n c'))
  have O2 := Lib.hid (ownVC O1.out (p := ⟨w.heap.size, 1, none⟩) (by simp; omega) (.slice A' n c'))
  have B2 := B1.setCell (p := ⟨w.heap.size, 1, none⟩) (Nat.le_refl _) (.slice A' n c')
  clear p1 f1
  go_wp2_with (first
    | (refine wpList_load_row rfl 24 (.tmp 1) rfl (w.heap.size) rfl 24 _ (0, 0) _ P2.out Try.underlying24 rfl (S.i24 _ _ _ _) ?_)
    | (refine wpList_store_row rfl 24 (.tmp 2) (.tmp 7) rfl (w.heap.size + 1) (s.cs A' n c') rfl rfl 24 _ Q2.out (S.i24 _ _ _ _) (S.sz S.zero s none _ 0 0 _ _) (S.one _ _ _ _) ?_))
  refine bodyPost_ret (results_cell_row rfl _ _ (w.heap.size + 1) 24 _ (0, 0) _ rfl (setRow_heap _ _ _ _ _ _ Q2.out) Try.underlying24 rfl (S.i24 _ _ _ _)) rfl ⟨A', c', rfl, ownBase2 (ownVR O2.out (by simp) _) (by simp; omega), below_setRow B2 (by omega) _⟩
/-- what the work of a function on samples gives: a sample with frames of its own, and an error's number -/
def Gives (F : FuncId) (args : Array Value) (w : World) (t : S) (m : Nat) (ys : Nat → Int) (er : Int) : Prop :=
  Calls Try.prog F args w fun e w' => ∃ A' c', e = .returned (.tuple #[.agg (t.cs A' m c'), iv er]) ∧ w'.ownsRow w.heap.size 3 1 (.slice A' m c') m (rw_ ys m) ∧ Below w.heap.size w w'
def revS (s : S) (n : Nat) : S := ⟨s.nm, s.a2, s.a3, s.a4, s.a5, s.a6, s.a7, if s.a7 = 0 then s.a8 else n - s.a9, if s.a7 = 0 then s.a9 else n - s.a8, s.a10, if s.a10 = 0 then s.a11 else n - s.a12, if s.a10 = 0 then s.a12 else n - s.a11⟩
def revF (n : Nat) (xs : Nat → Int) (i : Nat) : Int := xs (n - 1 - i)
theorem own0 {w : World} {B : Nat} {F : Nat → Int} : w.ownsRow B 3 1 (.slice none 0 0) 0 (rw_ F 0) := ⟨by simp [rw_], .inl ⟨rfl, rfl⟩⟩
set_option maxHeartbeats 16000000 in
set_option maxRecDepth 100000 in
theorem srev_bad (s : S) (A : Option Addr) (n c0 b o : Nat) (xs : Nat → Int)  (hv : vS s n xs = false) (hn : n ≤ 9223372036854775807) (hc0 : n ≤ c0) (w : World) (hA : DataAt w A n b o xs) : Gives 31 #[.agg (s.cs A n c0)] w S.zero 0 (fun _ => 0) 1 := by
  unfold Gives
  have H0 := Lib.hid (show ((w.alloc (Obj.cells (s.cs A n c0) 24)).alloc (Obj.cells #[Value.string ⟨#[]⟩, Value.slice none 0 0, iv 0, iv 0, iv 0, iv 0, iv 0, iv 0, iv 0, iv 0, iv 0, iv 0, iv 0] 24)).heap[w.heap.size + 1]? = some (.cells (S.zero.cs none 0 0) 24 (0, 0)) from heap_alloc2_new w (Obj.cells (s.cs A n c0) 24) (Obj.cells #[Value.string ⟨#[]⟩, Value.slice none 0 0, iv 0, iv 0, iv 0, iv 0, iv 0, iv 0, iv 0, iv 0, iv 0, iv 0, iv 0] 24))
  have B0 : Below w.heap.size w ((w.alloc (Obj.cells (s.cs A n c0) 24)).alloc (Obj.cells #[Value.string ⟨#[]⟩, Value.slice none 0 0, iv 0, iv 0, iv 0, iv 0, iv 0, iv 0, iv 0, iv 0, iv 0, iv 0, iv 0] 24)) := ((Below.refl _ _).alloc (Nat.le_refl _) _).alloc (by simp) _
  have P0 := Lib.hid (show ((w.alloc (Obj.cells (s.cs A n c0) 24)).alloc (Obj.cells #[Value.string ⟨#[]⟩, Value.slice none 0 0, iv 0, iv 0, iv 0, iv 0, iv 0, iv 0, iv 0, iv 0, iv 0, iv 0, iv 0] 24)).heap[w.heap.size]? = some (.cells (s.cs A n c0) 24 (0, 0)) from heap_alloc2_old w _ _)
  have D0 := Lib.hid (hA.later B0)
  have VC := Lib.hid (show ∀ (W : World), DataAt W A n b o xs → Calls Try.prog 15 #[.agg (s.cs A n c0)] W fun e w' => e = .returned (.bool false) ∧ Below W.heap.size W w' from fun W h => by have := valid_any s A n c0 b o xs hn hc0 W h; rwa [hv] at this)
  clear hA hv
  go_enter Try.func31, Try.ntmps31
  go_wp2_with (first
    | (refine wpList_load_row rfl 24 (.tmp 1) rfl (w.heap.size) rfl 24 _ (0, 0) _ P0.out Try.underlying24 rfl (S.i24 _ _ _ _) ?_)
    | (go_at_call 15; (with_reducible refine (VC.out _ D0.out).mono ?_); rintro e w1 ⟨rfl, hb1⟩; have P1 := Lib.hid (bkBelow P0.out hb1); have H1 := Lib.hid (bkBelow H0.out hb1); have D1 := Lib.hid (D0.out.later hb1); have B1 := bdT B0 B0.size hb1)
    | (refine wpBuild0 rfl 24 rfl (S.zero.cs none 0 0) built24 ?_)
    | (refine wpList_store_row rfl 24 (.tmp 2) (.tmp 8) rfl (w.heap.size + 1) (S.zero.cs none 0 0) rfl rfl 24 _ H1.out (S.i24 _ _ _ _) (S.sz S.zero S.zero none none 0 0 0 0) (S.one _ _ _ _) ?_))
  refine bodyPost_ret (res_ct rfl _ _ (w.heap.size + 1) 24 _ (0, 0) _ rfl (setRow_heap _ _ _ _ _ _ H1.out) Try.underlying24 rfl (S.i24 _ _ _ _)) rfl ⟨none, 0, rfl, own0, below_setRow B1 (by omega) _⟩
set_option maxHeartbeats 16000000 in
set_option maxRecDepth 100000 in
theorem srev_ok (s : S) (A : Option Addr) (n c0 b o : Nat) (xs : Nat → Int)  (hv : vS s n xs = true) (hn : n ≤ 9223372036854775807) (hc0 : n ≤ c0) (w : World) (hA : DataAt w A n b o xs) : Gives 31 #[.agg (s.cs A n c0)] w (revS s n) n (revF n xs) 0 := by
  unfold Gives
  have H0 := Lib.hid (show ((w.alloc (Obj.cells (s.cs A n c0) 24)).alloc (Obj.cells #[Value.string ⟨#[]⟩, Value.slice none 0 0, iv 0, iv 0, iv 0, iv 0, iv 0, iv 0, iv 0, iv 0, iv 0, iv 0, iv 0] 24)).heap[w.heap.size + 1]? = some (.cells (S.zero.cs none 0 0) 24 (0, 0)) from heap_alloc2_new w (Obj.cells (s.cs A n c0) 24) (Obj.cells #[Value.string ⟨#[]⟩, Value.slice none 0 0, iv 0, iv 0, iv 0, iv 0, iv 0, iv 0, iv 0, iv 0, iv 0, iv 0, iv 0] 24))
  have B0 : Below w.heap.size w ((w.alloc (Obj.cells (s.cs A n c0) 24)).alloc (Obj.cells #[Value.string ⟨#[]⟩, Value.slice none 0 0, iv 0, iv 0, iv 0, iv 0, iv 0, iv 0, iv 0, iv 0, iv 0, iv 0, iv 0] 24)) := ((Below.refl _ _).alloc (Nat.le_refl _) _).alloc (by simp) _
  have P0 := Lib.hid (show ((w.alloc (Obj.cells (s.cs A n c0) 24)).alloc (Obj.cells #[Value.string ⟨#[]⟩, Value.slice none 0 0, iv 0, iv 0, iv 0, iv 0, iv 0, iv 0, iv 0, iv 0, iv 0, iv 0, iv 0] 24)).heap[w.heap.size]? = some (.cells (s.cs A n c0) 24 (0, 0)) from heap_alloc2_old w _ _)
  have D0 := Lib.hid (hA.later B0)
  have VC := Lib.hid (show ∀ (W : World), DataAt W A n b o xs → Calls Try.prog 15 #[.agg (s.cs A n c0)] W fun e w' => e = .returned (.bool true) ∧ Below W.heap.size W w' from fun W h => by have := valid_any s A n c0 b o xs hn hc0 W h; rwa [hv] at this)
  obtain ⟨_, _, n4, _, _, _, l7, l10⟩ := vS_yes hv
  unfold LpOk at l7 l10
  have HN := Lib.hid n4
  have OC := Lib.hid fun (W : World) (h : DataAt W A n b o xs) => own_any s A n c0 b o xs (by omega) W h
  have e1 : wrap64 ((n : Int) - s.a9) = n - s.a9 := wrap_in (by omega) (by omega)
  have e2 : wrap64 ((n : Int) - s.a8) = n - s.a8 := wrap_in (by omega) (by omega)
  have e3 : wrap64 ((n : Int) - s.a12) = n - s.a12 := wrap_in (by omega) (by omega)
  have e4 : wrap64 ((n : Int) - s.a11) = n - s.a11 := wrap_in (by omega) (by omega)
  clear hA hv l7 l10
  go_enter Try.func31, Try.ntmps31
  go_upto_region 3 with (first
    | (refine wpList_load_row rfl 24 (.tmp 1) rfl (w.heap.size) rfl 24 _ (0, 0) _ P0.out Try.underlying24 rfl (S.i24 _ _ _ _) ?_)
    | (go_at_call 15; (with_reducible refine (VC.out _ D0.out).mono ?_); rintro e w1 ⟨rfl, hb1⟩; have P1 := Lib.hid (bkBelow P0.out hb1); have H1 := Lib.hid (bkBelow H0.out hb1); have D1 := Lib.hid (D0.out.later hb1); have B1 := bdT B0 B0.size hb1))
  have HP := Lib.hid (bkLt P1.out)
  go_upto_region 4 with (first
    | (refine wpList_load_row rfl 24 (.tmp 1) rfl (w.heap.size) rfl 24 _ (0, 0) _ P1.out Try.underlying24 rfl (S.i24 _ _ _ _) ?_)
    | (go_at_call 74; (with_reducible refine (OC.out _ D1.out).mono ?_); rintro e w2 ⟨A', c', rfl, hO2, hb2⟩; have P2 := Lib.hid (bkBelow P1.out hb2); have H2 := Lib.hid (bkBelow H1.out hb2); have B2 := bdT B1 B1.size hb2; have O2 := Lib.hid hO2; clear hO2 hb2)
    | (refine wpList_store_row rfl 24 (.tmp 1) (.tmp 10) rfl (w.heap.size) (s.cs A' n c') rfl rfl 24 _ P2.out (S.i24 _ _ _ _) (S.sz s s A A' n c0 n c') (S.one _ _ _ _) ?_))
  have P3 := Lib.hid (setRow_heap _ _ _ (s.cs A' n c') _ _ P2.out)
  have H3 := Lib.hid ((setRow_other w2 w.heap.size (w.heap.size + 1) (s.cs A' n c') (by omega)).trans H2.out)
  have HH := Lib.hid (bkLt H1.out)
  have O3 := Lib.hid (ownVR O2.out HP.out (s.cs A' n c'))
  have B3 := below_setRow B2 (Nat.le_refl _) (s.cs A' n c')
  clear P2 H2 O2 B2 P0 H0 D0 B0 P1 H1 D1 B1
  generalize w2.setRow w.heap.size (s.cs A' n c') = w3 at *
  have p1 := (bkCell P3.out 1).trans (show _ = some (Value.slice A' n c') from rfl)
  go_upto_region 5 with (go_at_call 75; (with_reducible refine (rev_own _ n c' A' xs w3 O3.out (by have := HN.out; omega) w3 (Below.refl _ _)).mono ?_); rintro e w4 ⟨rfl, hO4, hB4⟩)
  have P4 := Lib.hid ((hB4.block w.heap.size HP.out).trans P3.out)
  have H4 := Lib.hid ((hB4.block (w.heap.size + 1) HH.out).trans H3.out)
  have O4 := Lib.hid hO4
  have B4 := B3.trans (hB4.mono (Nat.le_of_lt HP.out))
  clear p1 P3 H3 O3 B3 hO4 hB4
  have p1 := (bkCell P4.out 1).trans (show _ = some (Value.slice A' n c') from rfl)
  go_upto_region 6 with (fail)
  clear p1
  by_cases h7 : s.a7 = 0
  · have x7 : (s.a7 != 0) = false := by simp [h7]
    have p7 := (bkCell P4.out 7).trans (show _ = some (iv s.a7) from rfl)
    go_upto_region 8 with (fail)
    clear p7
    clear x7
    by_cases h10 : s.a10 = 0
    · have x10 : (s.a10 != 0) = false := by simp [h10]
      have p10 := (bkCell P4.out 10).trans (show _ = some (iv s.a10) from rfl)
      go_upto_region 10 with (fail)
      clear p10
      have hT : revS s n = ⟨s.nm, s.a2, s.a3, s.a4, s.a5, s.a6, s.a7, s.a8, s.a9, s.a10, s.a11, s.a12⟩ := by unfold revS; simp only [if_pos h7, if_pos h10, if_true, if_false]
      clear h7 h10 x10
      go_wp2_with (first
        | (refine wpList_load_row rfl 24 (.tmp 1) rfl (w.heap.size) rfl 24 _ (0, 0) _ P4.out Try.underlying24 rfl (S.i24 _ _ _ _) ?_)
        | (refine wpList_store_row rfl 24 (.tmp 2) (.tmp 43) rfl (w.heap.size + 1) (S.cs ⟨s.nm, s.a2, s.a3, s.a4, s.a5, s.a6, s.a7, s.a8, s.a9, s.a10, s.a11, s.a12⟩ A' n c') rfl rfl 24 _ H4.out (S.i24 _ _ _ _) (S.sz S.zero _ none _ 0 0 _ _) (S.one _ _ _ _) ?_))
      refine bodyPost_ret (res_ct rfl _ _ (w.heap.size + 1) 24 _ (0, 0) _ rfl (setRow_heap _ _ _ _ _ _ H4.out) Try.underlying24 rfl (S.i24 _ _ _ _)) rfl ⟨A', c', by first | (rw [hT]; rfl) | rw [hT], ownBase2 (ownVR O4.out HH.out _) (Nat.le_of_lt HP.out), below_setRow B4 (by omega) _⟩
    · have x10 : (s.a10 != 0) = true := by simp [h10]
      have p10 := (bkCell P4.out 10).trans (show _ = some (iv s.a10) from rfl)
      have p11 := (bkCell P4.out 11).trans (show _ = some (iv s.a11) from rfl)
      have p12 := (bkCell P4.out 12).trans (show _ = some (iv s.a12) from rfl)
      have f11 := bkFrozen P4.out 11
      have f12 := bkFrozen P4.out 12
      go_upto_region 10 with (fail)
      have P5 := Lib.hid (bkPut (bkPut P4.out 11 (iv (n - s.a12)) (show _ = S.cs ⟨s.nm, s.a2, s.a3, s.a4, s.a5, s.a6, s.a7, s.a8, s.a9, s.a10, (n - s.a12), s.a12⟩ A' n c' from rfl)) 12 (iv (n - s.a11)) (show _ = S.cs ⟨s.nm, s.a2, s.a3, s.a4, s.a5, s.a6, s.a7, s.a8, s.a9, s.a10, (n - s.a12), (n - s.a11)⟩ A' n c' from rfl))
      have H5 := Lib.hid (bkFar (bkFar H4.out (p := ⟨w.heap.size, 11, none⟩) (by simp) (iv (n - s.a12))) (p := ⟨w.heap.size, 12, none⟩) (by simp) (iv (n - s.a11)))
      have O5 := Lib.hid (ownVC (ownVC O4.out (p := ⟨w.heap.size, 11, none⟩) HP.out (iv (n - s.a12))) (p := ⟨w.heap.size, 12, none⟩) HP.out (iv (n - s.a11)))
      have B5 := (B4.setCell (p := ⟨w.heap.size, 11, none⟩) (Nat.le_refl _) (iv (n - s.a12))).setCell (p := ⟨w.heap.size, 12, none⟩) (Nat.le_refl _) (iv (n - s.a11))
      clear p10 p11 p12 f11 f12 P4 H4 O4 B4
      have hT : revS s n = ⟨s.nm, s.a2, s.a3, s.a4, s.a5, s.a6, s.a7, s.a8, s.a9, s.a10, (n - s.a12), (n - s.a11)⟩ := by unfold revS; simp only [if_pos h7, if_neg h10, if_true, if_false]
      clear h7 h10 x10
      go_wp2_with (first
        | (refine wpList_load_row rfl 24 (.tmp 1) rfl (w.heap.size) rfl 24 _ (0, 0) _ P5.out Try.underlying24 rfl (S.i24 _ _ _ _) ?_)
        | (refine wpList_store_row rfl 24 (.tmp 2) (.tmp 43) rfl (w.heap.size + 1) (S.cs ⟨s.nm, s.a2, s.a3, s.a4, s.a5, s.a6, s.a7, s.a8, s.a9, s.a10, (n - s.a12), (n - s.a11)⟩ A' n c') rfl rfl 24 _ H5.out (S.i24 _ _ _ _) (S.sz S.zero _ none _ 0 0 _ _) (S.one _ _ _ _) ?_))
      refine bodyPost_ret (res_ct rfl _ _ (w.heap.size + 1) 24 _ (0, 0) _ rfl (setRow_heap _ _ _ _ _ _ H5.out) Try.underlying24 rfl (S.i24 _ _ _ _)) rfl ⟨A', c', by first | (rw [hT]; rfl) | rw [hT], ownBase2 (ownVR O5.out HH.out _) (Nat.le_of_lt HP.out), below_setRow B5 (by omega) _⟩
  · have x7 : (s.a7 != 0) = true := by simp [h7]
    have p7 := (bkCell P4.out 7).trans (show _ = some (iv s.a7) from rfl)
    have p8 := (bkCell P4.out 8).trans (show _ = some (iv s.a8) from rfl)
    have p9 := (bkCell P4.out 9).trans (show _ = some (iv s.a9) from rfl)
    have f8 := bkFrozen P4.out 8
    have f9 := bkFrozen P4.out 9
    go_upto_region 8 with (fail)
    have P5 := Lib.hid (bkPut (bkPut P4.out 8 (iv (n - s.a9)) (show _ = S.cs ⟨s.nm, s.a2, s.a3, s.a4, s.a5, s.a6, s.a7, (n - s.a9), s.a9, s.a10, s.a11, s.a12⟩ A' n c' from rfl)) 9 (iv (n - s.a8)) (show _ = S.cs ⟨s.nm, s.a2, s.a3, s.a4, s.a5, s.a6, s.a7, (n - s.a9), (n - s.a8), s.a10, s.a11, s.a12⟩ A' n c' from rfl))
    have H5 := Lib.hid (bkFar (bkFar H4.out (p := ⟨w.heap.size, 8, none⟩) (by simp) (iv (n - s.a9))) (p := ⟨w.heap.size, 9, none⟩) (by simp) (iv (n - s.a8)))
    have O5 := Lib.hid (ownVC (ownVC O4.out (p := ⟨w.heap.size, 8, none⟩) HP.out (iv (n - s.a9))) (p := ⟨w.heap.size, 9, none⟩) HP.out (iv (n - s.a8)))
    have B5 := (B4.setCell (p := ⟨w.heap.size, 8, none⟩) (Nat.le_refl _) (iv (n - s.a9))).setCell (p := ⟨w.heap.size, 9, none⟩) (Nat.le_refl _) (iv (n - s.a8))
    clear p7 p8 p9 f8 f9 P4 H4 O4 B4
    clear x7
    by_cases h10 : s.a10 = 0
    · have x10 : (s.a10 != 0) = false := by simp [h10]
      have p10 := (bkCell P5.out 10).trans (show _ = some (iv s.a10) from rfl)
      go_upto_region 10 with (fail)
      clear p10
      have hT : revS s n = ⟨s.nm, s.a2, s.a3, s.a4, s.a5, s.a6, s.a7, (n - s.a9), (n - s.a8), s.a10, s.a11, s.a12⟩ := by unfold revS; simp only [if_neg h7, if_pos h10, if_true, if_false]
      clear h7 h10 x10
      go_wp2_with (first
        | (refine wpList_load_row rfl 24 (.tmp 1) rfl (w.heap.size) rfl 24 _ (0, 0) _ P5.out Try.underlying24 rfl (S.i24 _ _ _ _) ?_)
        | (refine wpList_store_row rfl 24 (.tmp 2) (.tmp 43) rfl (w.heap.size + 1) (S.cs ⟨s.nm, s.a2, s.a3, s.a4, s.a5, s.a6, s.a7, (n - s.a9), (n - s.a8), s.a10, s.a11, s.a12⟩ A' n c') rfl rfl 24 _ H5.out (S.i24 _ _ _ _) (S.sz S.zero _ none _ 0 0 _ _) (S.one _ _ _ _) ?_))
      refine bodyPost_ret (res_ct rfl _ _ (w.heap.size + 1) 24 _ (0, 0) _ rfl (setRow_heap _ _ _ _ _ _ H5.out) Try.underlying24 rfl (S.i24 _ _ _ _)) rfl ⟨A', c', by first | (rw [hT]; rfl) | rw [hT], ownBase2 (ownVR O5.out HH.out _) (Nat.le_of_lt HP.out), below_setRow B5 (by omega) _⟩
    · have x10 : (s.a10 != 0) = true := by simp [h10]
      have p10 := (bkCell P5.out 10).trans (show _ = some (iv s.a10) from rfl)
      have p11 := (bkCell P5.out 11).trans (show _ = some (iv s.a11) from rfl)
      have p12 := (bkCell P5.out 12).trans (show _ = some (iv s.a12) from rfl)
      have f11 := bkFrozen P5.out 11
      have f12 := bkFrozen P5.out 12
      go_upto_region 10 with (fail)
      have P6 := Lib.hid (bkPut (bkPut P5.out 11 (iv (n - s.a12)) (show _ = S.cs ⟨s.nm, s.a2, s.a3, s.a4, s.a5, s.a6, s.a7, (n - s.a9), (n - s.a8), s.a10, (n - s.a12), s.a12⟩ A' n c' from rfl)) 12 (iv (n - s.a11)) (show _ = S.cs ⟨s.nm, s.a2, s.a3, s.a4, s.a5, s.a6, s.a7, (n - s.a9), (n - s.a8), s.a10, (n - s.a12), (n - s.a11)⟩ A' n c' from rfl))
      have H6 := Lib.hid (bkFar (bkFar H5.out (p := ⟨w.heap.size, 11, none⟩) (by simp) (iv (n - s.a12))) (p := ⟨w.heap.size, 12, none⟩) (by simp) (iv (n - s.a11)))
      have O6 := Lib.hid (ownVC (ownVC O5.out (p := ⟨w.heap.size, 11, none⟩) HP.out (iv (n - s.a12))) (p := ⟨w.heap.size, 12, none⟩) HP.out (iv (n - s.a11)))
      have B6 := (B5.setCell (p := ⟨w.heap.size, 11, none⟩) (Nat.le_refl _) (iv (n - s.a12))).setCell (p := ⟨w.heap.size, 12, none⟩) (Nat.le_refl _) (iv (n - s.a11))
      clear p10 p11 p12 f11 f12 P5 H5 O5 B5
      have hT : revS s n = ⟨s.nm, s.a2, s.a3, s.a4, s.a5, s.a6, s.a7, (n - s.a9), (n - s.a8), s.a10, (n - s.a12), (n - s.a11)⟩ := by unfold revS; simp only [if_neg h7, if_neg h10, if_true, if_false]
      clear h7 h10 x10
      go_wp2_with (first
        | (refine wpList_load_row rfl 24 (.tmp 1) rfl (w.heap.size) rfl 24 _ (0, 0) _ P6.out Try.underlying24 rfl (S.i24 _ _ _ _) ?_)
        | (refine wpList_store_row rfl 24 (.tmp 2) (.tmp 43) rfl (w.heap.size + 1) (S.cs ⟨s.nm, s.a2, s.a3, s.a4, s.a5, s.a6, s.a7, (n - s.a9), (n - s.a8), s.a10, (n - s.a12), (n - s.a11)⟩ A' n c') rfl rfl 24 _ H6.out (S.i24 _ _ _ _) (S.sz S.zero _ none _ 0 0 _ _) (S.one _ _ _ _) ?_))
      refine bodyPost_ret (res_ct rfl _ _ (w.heap.size + 1) 24 _ (0, 0) _ rfl (setRow_heap _ _ _ _ _ _ H6.out) Try.underlying24 rfl (S.i24 _ _ _ _)) rfl ⟨A', c', by first | (rw [hT]; rfl) | rw [hT], ownBase2 (ownVR O6.out HH.out _) (Nat.le_of_lt HP.out), below_setRow B6 (by omega) _⟩
end Go.Proofs.Ytnmoiolddfboiaa.SX

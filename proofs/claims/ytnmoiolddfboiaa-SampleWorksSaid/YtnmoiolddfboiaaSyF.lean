/- What is made of a sample is what the reference makes of it, in new memory. -/
import Derived.Test.YtnmoiolddfboiaaSxQ
import Derived.Test.YtnmoiolddfboiaaSyB
import Derived.Test.YtnmoiolddfboiaaSyC
import Derived.Test.YtnmoiolddfboiaaSyD
namespace Go.Proofs.Ytnmoiolddfboiaa.SX
open Go.RowKit Go.Proofs.YtnmoiolddfboiaaW.PrintLast Go.Proofs.Ytnmoiolddfboiaa.TX Go.Proofs.Ytnmoiolddfboiaa.Cu
set_option linter.unusedVariables false
set_option linter.unusedSimpArgs false
set_option maxHeartbeats 4000000 in
set_option maxRecDepth 100000 in
theorem both_rev (s : S) (n : Nat) (xs : Nat → Int) (hn : n ≤ 9223372036854775807) : ∃ u m ys er, m ≤ 20000000000000 ∧ (er = 0 → vS u m ys = true) ∧ (∀ A c0 b o, n ≤ c0 → ∀ w, DataAt w A n b o xs → Gives 31 #[.agg (s.cs A n c0)] w u m ys er) ∧ (∀ A c0 b o, n ≤ c0 → (A = none → c0 = 0) → ∀ w, DataAt w A n b o xs → Gives 35 #[.agg (s.cs A n c0)] w u m ys er) := by
  cases hv : vS s n xs
  · exact ⟨S.zero, 0, fun _ => 0, 1, by omega, fun h => by omega, fun A c0 b o hc0 w hA => srev_bad s A n c0 b o xs hv hn hc0 w hA, fun A c0 b o hc0 _ w hA => rrev_bad s A n c0 b o xs hv hn hc0 w hA⟩
  · have := (vS_yes hv).2.2.1
    exact ⟨revS s n, n, revF n xs, 0, by omega, fun _ => rev_valid hv, fun A c0 b o hc0 w hA => srev_ok s A n c0 b o xs hv hn hc0 w hA, fun A c0 b o hc0 _ w hA => rrev_ok s A n c0 b o xs hv hn hc0 w hA⟩
set_option maxHeartbeats 4000000 in
set_option maxRecDepth 100000 in
theorem both_crop (s : S) (n : Nat) (xs : Nat → Int) (f t : Int) (hn : n ≤ 9223372036854775807) : ∃ u m ys er, m ≤ 20000000000000 ∧ (er = 0 → vS u m ys = true) ∧ (∀ A c0 b o, n ≤ c0 → ∀ w, DataAt w A n b o xs → Gives 32 #[.agg (s.cs A n c0), iv f, iv t] w u m ys er) ∧ (∀ A c0 b o, n ≤ c0 → (A = none → c0 = 0) → ∀ w, DataAt w A n b o xs → Gives 36 #[.agg (s.cs A n c0), iv f, iv t] w u m ys er) := by
  cases hv : vS s n xs
  · exact ⟨S.zero, 0, fun _ => 0, 1, by omega, fun h => by omega, fun A c0 b o hc0 w hA => scrop_bad s A n c0 b o xs f t hv hn hc0 w hA, fun A c0 b o hc0 _ w hA => rcrop_bad s A n c0 b o xs f t hv hn hc0 w hA⟩
  · have := (vS_yes hv).2.2.1
    rcases Int.lt_or_le f 0 with h1 | h1
    · exact ⟨S.zero, 0, fun _ => 0, 5, by omega, fun h => by omega, fun A c0 b o hc0 w hA => scrop_rng1 s A n c0 b o xs f t hv h1 hn hc0 w hA, fun A c0 b o hc0 _ w hA => rcrop_rng1 s A n c0 b o xs f t hv h1 hn hc0 w hA⟩
    rcases Int.lt_or_le t f with h2 | h2
    · exact ⟨S.zero, 0, fun _ => 0, 5, by omega, fun h => by omega, fun A c0 b o hc0 w hA => scrop_rng2 s A n c0 b o xs f t hv h1 h2 hn hc0 w hA, fun A c0 b o hc0 _ w hA => rcrop_rng2 s A n c0 b o xs f t hv h1 h2 hn hc0 w hA⟩
    rcases Int.lt_or_le (n : Int) t with h3 | h3
    · exact ⟨S.zero, 0, fun _ => 0, 5, by omega, fun h => by omega, fun A c0 b o hc0 w hA => scrop_rng3 s A n c0 b o xs f t hv h1 h2 h3 hn hc0 w hA, fun A c0 b o hc0 _ w hA => rcrop_rng3 s A n c0 b o xs f t hv h1 h2 h3 hn hc0 w hA⟩
    obtain ⟨f', rfl⟩ := Int.eq_ofNat_of_zero_le h1
    obtain ⟨t', rfl⟩ := Int.eq_ofNat_of_zero_le (show 0 ≤ t by omega)
    have e1 : f' ≤ t' := by omega
    have e2 : t' ≤ n := by omega
    exact ⟨cropS s f' t', t' - f', fun i => xs (f' + i), 0, by omega, fun _ => crop_valid hv e1 e2, fun A c0 b o hc0 w hA => scrop_ok s A n c0 b o xs f' t' hv e1 e2 hn hc0 w hA, fun A c0 b o hc0 hN w hA => rcrop_ok s A n c0 b o xs f' t' hv e1 e2 hN hn hc0 w hA⟩
set_option maxHeartbeats 4000000 in
set_option maxRecDepth 100000 in
theorem both_amp (s : S) (n : Nat) (xs : Nat → Int) (num den : Int) (hn : n ≤ 9223372036854775807) : ∃ u m ys er, m ≤ 20000000000000 ∧ (er = 0 → vS u m ys = true) ∧ (∀ A c0 b o, n ≤ c0 → ∀ w, DataAt w A n b o xs → Gives 37 #[.agg (s.cs A n c0), iv num, iv den] w u m ys er) ∧ (∀ A c0 b o, n ≤ c0 → (A = none → c0 = 0) → ∀ w, DataAt w A n b o xs → Gives 38 #[.agg (s.cs A n c0), iv num, iv den] w u m ys er) := by
  cases hv : vS s n xs
  · exact ⟨S.zero, 0, fun _ => 0, 1, by omega, fun h => by omega, fun A c0 b o hc0 w hA => samp_bad s A n c0 b o xs num den hv hn hc0 w hA, fun A c0 b o hc0 _ w hA => ramp_bad s A n c0 b o xs num den hv hn hc0 w hA⟩
  · have := (vS_yes hv).2.2.1
    rcases Int.lt_or_le num (-10000) with h1 | h1
    · exact ⟨S.zero, 0, fun _ => 0, 5, by omega, fun h => by omega, fun A c0 b o hc0 w hA => samp_rng1 s A n c0 b o xs num den hv h1 hn hc0 w hA, fun A c0 b o hc0 _ w hA => ramp_rng1 s A n c0 b o xs num den hv h1 hn hc0 w hA⟩
    rcases Int.lt_or_le 10000 num with h2 | h2
    · exact ⟨S.zero, 0, fun _ => 0, 5, by omega, fun h => by omega, fun A c0 b o hc0 w hA => samp_rng2 s A n c0 b o xs num den hv h1 h2 hn hc0 w hA, fun A c0 b o hc0 _ w hA => ramp_rng2 s A n c0 b o xs num den hv h1 h2 hn hc0 w hA⟩
    rcases Int.lt_or_le den 1 with h3 | h3
    · exact ⟨S.zero, 0, fun _ => 0, 5, by omega, fun h => by omega, fun A c0 b o hc0 w hA => samp_rng3 s A n c0 b o xs num den hv h1 h2 h3 hn hc0 w hA, fun A c0 b o hc0 _ w hA => ramp_rng3 s A n c0 b o xs num den hv h1 h2 h3 hn hc0 w hA⟩
    rcases Int.lt_or_le 10000 den with h4 | h4
    · exact ⟨S.zero, 0, fun _ => 0, 5, by omega, fun h => by omega, fun A c0 b o hc0 w hA => samp_rng4 s A n c0 b o xs num den hv h1 h2 h3 h4 hn hc0 w hA, fun A c0 b o hc0 _ w hA => ramp_rng4 s A n c0 b o xs num den hv h1 h2 h3 h4 hn hc0 w hA⟩
    exact ⟨s, n, ampF s.a2 num den xs, 0, by omega, fun _ => amp_valid hv num den, fun A c0 b o hc0 w hA => samp_ok s A n c0 b o xs num den h1 h2 h3 h4 hv hn hc0 w hA, fun A c0 b o hc0 hN w hA => ramp_ok s A n c0 b o xs num den h1 h2 h3 h4 hv hN hn hc0 w hA⟩
set_option maxHeartbeats 4000000 in
set_option maxRecDepth 100000 in
theorem both_conv (s : S) (n : Nat) (xs : Nat → Int) (bits : Int) (hn : n ≤ 9223372036854775807) : ∃ u m ys er, m ≤ 20000000000000 ∧ (er = 0 → vS u m ys = true) ∧ (∀ A c0 b o, n ≤ c0 → ∀ w, DataAt w A n b o xs → Gives 34 #[.agg (s.cs A n c0), iv bits] w u m ys er) ∧ (∀ A c0 b o, n ≤ c0 → (A = none → c0 = 0) → ∀ w, DataAt w A n b o xs → Gives 39 #[.agg (s.cs A n c0), iv bits] w u m ys er) := by
  cases hv : vS s n xs
  · exact ⟨S.zero, 0, fun _ => 0, 1, by omega, fun h => by omega, fun A c0 b o hc0 w hA => sconv_bad s A n c0 b o xs bits hv hn hc0 w hA, fun A c0 b o hc0 _ w hA => rconv_bad s A n c0 b o xs bits hv hn hc0 w hA⟩
  · have := (vS_yes hv).2.2.1
    by_cases hb2 : bits = 8 ∨ bits = 16
    · exact ⟨cvS s bits, n, cvF s.a2 bits xs, 0, by omega, fun _ => cv_valid hv hb2, fun A c0 b o hc0 w hA => sconv_ok s A n c0 b o xs bits hb2 hv hn hc0 w hA, fun A c0 b o hc0 hN w hA => rconv_ok s A n c0 b o xs bits hb2 hv hN hn hc0 w hA⟩
    · exact ⟨S.zero, 0, fun _ => 0, 5, by omega, fun h => by omega, fun A c0 b o hc0 w hA => sconv_rng s A n c0 b o xs bits hv (fun h => hb2 (.inl h)) (fun h => hb2 (.inr h)) hn hc0 w hA, fun A c0 b o hc0 _ w hA => rconv_rng s A n c0 b o xs bits hv (fun h => hb2 (.inl h)) (fun h => hb2 (.inr h)) hn hc0 w hA⟩
theorem gives_calls {F : FuncId} {args : Array Value} {w : World} {t : S} {m : Nat} {ys : Nat → Int} {er : Int} (h : Gives F args w t m ys er) :
    Calls Try.prog F args w fun e w' => ∃ A' c', e = .returned (.tuple #[.agg (t.cs A' m c'), iv er]) ∧ w'.ownsRow w.heap.size 3 1 (.slice A' m c') m (rw_ ys m) ∧ Below w.heap.size w w' := h
theorem ownDat {w : World} {B n c : Nat} {A : Option Addr} {F : Nat → Int} (h : w.ownsRow B 3 1 (.slice A n c) n (rw_ F n)) : ∃ b o, DataAt w A n b o F ∧ n ≤ c := by
  obtain ⟨A2, c2, g, e2, hd, _⟩ := ownDataV h
  simp only [Value.slice.injEq, true_and] at e2
  obtain ⟨rfl, rfl⟩ := e2
  refine ⟨g, 0, hd, ?_⟩
  rcases h.2 with ⟨hq, hz⟩ | ⟨g', cap', cur, h', _, _, hle, _⟩
  · omega
  · simp only [Value.slice.injEq] at h'
    omega
set_option maxHeartbeats 32000000 in
set_option maxRecDepth 100000 in
theorem works_any (q : Q) (s : S) (A : Option Addr) (n c0 b o : Nat) (xs : Nat → Int) (hn : n ≤ 20000000000000) (hc0 : n ≤ c0) (hN : A = none → c0 = 0) (w : World) (hA : DataAt w A n b o xs) : Calls Try.prog 9 #[.agg (q.cs s A n c0)] w fun e w' => e = .returned (.bool true) ∧ Below w.heap.size w w' := by
  have B0 : Below w.heap.size w (w.alloc (Obj.cells (q.cs s A n c0) 28)) := (Below.refl _ _).alloc (Nat.le_refl _) _
  have P0 := Lib.hid (show (w.alloc (Obj.cells (q.cs s A n c0) 28)).heap[w.heap.size]? = some (.cells (q.cs s A n c0) 28 (0, 0)) from heap_alloc_new w _)
  have D0 := Lib.hid (hA.later B0)
  have CQ := Lib.hid fun (W : World) (h : DataAt W A n b o xs) => copy_any s A n c0 b o xs hn W h
  have HNB := Lib.hid hn
  have HNN := Lib.hid (show n ≤ 9223372036854775807 by omega)
  have HC0 := Lib.hid hc0
  have HNO := Lib.hid hN
  have HD := Lib.hid hA
  clear hA
  go_enter Try.func9, Try.ntmps9
  go_upto_region 2 with (first
    | (refine wpLoadAsk rfl _ rfl (w.heap.size) rfl q s A n c0 P0.out ?_)
    | (go_at_call 23; (with_reducible refine (CQ.out _ D0.out).mono ?_); rintro e w1 ⟨g, rfl, hg1, hgl, hb1⟩; have P1 := Lib.hid (bkBelow P0.out hb1); have D1 := Lib.hid (D0.out.later hb1); have B1 := bdT B0 B0.size hb1; have G1 := Lib.hid (hg1); clear P0 D0)
    | (refine wpList_store_row rfl 24 (.tmp 3) (.tmp 12) rfl (w1.heap.size) (s.cs (some ⟨g, 0, none⟩) n (n + 1)) rfl rfl 24 _ (heap_alloc_new w1 (Obj.cells #[Value.string ⟨#[]⟩, Value.slice none 0 0, iv 0, iv 0, iv 0, iv 0, iv 0, iv 0, iv 0, iv 0, iv 0, iv 0, iv 0] 24)) (S.i24 _ _ _ _) (S.sz S.zero s none _ 0 0 _ _) (S.one _ _ _ _) ?_; have K2 := below_setRow ((Below.refl w1.heap.size w1).alloc (Nat.le_refl _) (Obj.cells #[Value.string ⟨#[]⟩, Value.slice none 0 0, iv 0, iv 0, iv 0, iv 0, iv 0, iv 0, iv 0, iv 0, iv 0, iv 0, iv 0] 24)) (g := w1.heap.size) (Nat.le_refl _) (s.cs (some ⟨g, 0, none⟩) n (n + 1)); have P2 := Lib.hid (bkBelow P1.out K2); have D2 := Lib.hid (D1.out.later K2); have G2 := Lib.hid (bkBelow G1.out K2); have B2 := bdT B1 B1.size K2; have T2 := Lib.hid (setRow_heap _ _ _ (s.cs (some ⟨g, 0, none⟩) n (n + 1)) _ _ (heap_alloc_new w1 (Obj.cells #[Value.string ⟨#[]⟩, Value.slice none 0 0, iv 0, iv 0, iv 0, iv 0, iv 0, iv 0, iv 0, iv 0, iv 0, iv 0, iv 0] 24))); clear P1 D1 G1))
  go_upto_region 3 with (fail)
  go_loopw [4] (fun v wr => ∃ i : Nat, i ≤ 4 ∧ v = iv i ∧ wr.heap[w.heap.size]? = some (.cells (q.cs s A n c0) 28 (0, 0)) ∧ wr.heap[w1.heap.size]? = some (.cells (s.cs (some ⟨g, 0, none⟩) n (n + 1)) 24 (0, 0)) ∧ wr.heap[g]? = some (.cells (rw_ (cpF xs n) (n + 1)).toArray 3 (0, 0)) ∧ Below w.heap.size w wr) (fun v _ => 4 - (intOf v).toNat)
  case atStart => exact ⟨0, by omega, rfl, P2.out, T2.out, G2.out, B2⟩
  case round =>
    clear P2 T2 G2 D2 B2
    rename World => wo
    obtain ⟨i, hi, rfl, hP, hT, hG, hB⟩ := hrel
    have HZ := Lib.hid (show w.heap.size < wo.heap.size ∧ w1.heap.size < wo.heap.size ∧ g < wo.heap.size from ⟨bkLt hP, bkLt hT, bkLt hG⟩)
    rcases (by omega : i = 4 ∨ i = 0 ∨ i = 1 ∨ i = 2 ∨ i = 3) with rfl | rfl | rfl | rfl | rfl
    · have B3 := hB
      clear hP hT hG hB
      go_wp2_with (go_at_call 16; (with_reducible refine (awake_any _).mono ?_); rintro e wz ⟨rfl, hbz⟩)
      go_ret
      exact ⟨rfl, bdT B3 B3.size hbz⟩
    · skip
      have K0 : Below wo.heap.size wo ((wo.alloc (Obj.cells #[Value.string ⟨#[]⟩, Value.slice none 0 0, iv 0, iv 0, iv 0, iv 0, iv 0, iv 0, iv 0, iv 0, iv 0, iv 0, iv 0] 24)).alloc (Obj.cells #[Value.string ⟨#[]⟩, Value.slice none 0 0, iv 0, iv 0, iv 0, iv 0, iv 0, iv 0, iv 0, iv 0, iv 0, iv 0, iv 0] 24)) := ((Below.refl _ _).alloc (Nat.le_refl _) _).alloc (by simp) _
      have P1 := Lib.hid (bkBelow hP K0)
      have T1 := Lib.hid (bkBelow hT K0)
      have G1 := Lib.hid (bkBelow hG K0)
      have U1 := Lib.hid (heap_alloc2_old wo (Obj.cells #[Value.string ⟨#[]⟩, Value.slice none 0 0, iv 0, iv 0, iv 0, iv 0, iv 0, iv 0, iv 0, iv 0, iv 0, iv 0, iv 0] 24) (Obj.cells #[Value.string ⟨#[]⟩, Value.slice none 0 0, iv 0, iv 0, iv 0, iv 0, iv 0, iv 0, iv 0, iv 0, iv 0, iv 0, iv 0] 24))
      have V1 := Lib.hid (heap_alloc2_new wo (Obj.cells #[Value.string ⟨#[]⟩, Value.slice none 0 0, iv 0, iv 0, iv 0, iv 0, iv 0, iv 0, iv 0, iv 0, iv 0, iv 0, iv 0] 24) (Obj.cells #[Value.string ⟨#[]⟩, Value.slice none 0 0, iv 0, iv 0, iv 0, iv 0, iv 0, iv 0, iv 0, iv 0, iv 0, iv 0, iv 0] 24))
      have B1 := bdT hB hB.size K0
      clear hP hT hG hB K0
      go_upto_region 6 with (fail)
      have HW2 := Lib.hid (show wo.heap.size + 1 < ((wo.alloc (Obj.cells #[Value.string ⟨#[]⟩, Value.slice none 0 0, iv 0, iv 0, iv 0, iv 0, iv 0, iv 0, iv 0, iv 0, iv 0, iv 0, iv 0] 24)).alloc (Obj.cells #[Value.string ⟨#[]⟩, Value.slice none 0 0, iv 0, iv 0, iv 0, iv 0, iv 0, iv 0, iv 0, iv 0, iv 0, iv 0, iv 0] 24)).heap.size from bkLt V1.out)
      generalize (wo.alloc (Obj.cells #[Value.string ⟨#[]⟩, Value.slice none 0 0, iv 0, iv 0, iv 0, iv 0, iv 0, iv 0, iv 0, iv 0, iv 0, iv 0, iv 0] 24)).alloc (Obj.cells #[Value.string ⟨#[]⟩, Value.slice none 0 0, iv 0, iv 0, iv 0, iv 0, iv 0, iv 0, iv 0, iv 0, iv 0, iv 0, iv 0] 24) = w2 at *
      obtain ⟨t, m, ys, er, hm, hev, ga0, gb0⟩ := both_rev s n xs HNN.out
      have GA := Lib.hid ga0
      have GB := Lib.hid gb0
      have HM := Lib.hid hm
      have HEV := Lib.hid hev
      clear ga0 gb0 hm hev
      have CA := Lib.hid (gives_calls (GA.out (some ⟨g, 0, none⟩) (n + 1) g 0 (Nat.le_succ n) w2 (cpData G1.out)))
      go_upto_region 12 with (first
        | (refine wpList_load_row rfl 24 (.tmp 3) rfl (w1.heap.size) rfl 24 _ (0, 0) _ T1.out Try.underlying24 rfl (S.i24 _ _ _ _) ?_)
        | (go_at_call 31; (with_reducible refine Calls.mono (CA.out) ?_); rintro e w3 ⟨A1, c1, rfl, hO1, hb_w3⟩; have P2 := Lib.hid (bkBelow P1.out hb_w3); have T2 := Lib.hid (bkBelow T1.out hb_w3); have G2 := Lib.hid (bkBelow G1.out hb_w3); have U2 := Lib.hid (bkBelow U1.out hb_w3); have V2 := Lib.hid (bkBelow V1.out hb_w3); have B2 := bdT B1 B1.size hb_w3; have O2 := Lib.hid (hO1); clear P1 T1 G1 U1 V1; clear hb_w3)
        | (refine wpList_store_row rfl 24 (.tmp 5) (.tmp 38) rfl (wo.heap.size) (t.cs A1 m c1) rfl rfl 24 _ U2.out (S.i24 _ _ _ _) (S.sz S.zero _ none _ 0 0 _ _) (S.one _ _ _ _) ?_))
      have P3 := Lib.hid ((setRow_other _ wo.heap.size _ (t.cs A1 m c1) (by have := HZ.out; omega)).trans P2.out)
      have T3 := Lib.hid ((setRow_other _ wo.heap.size _ (t.cs A1 m c1) (by have := HZ.out; omega)).trans T2.out)
      have G3 := Lib.hid ((setRow_other _ wo.heap.size _ (t.cs A1 m c1) (by have := HZ.out; omega)).trans G2.out)
      have U3 := Lib.hid (setRow_heap _ _ _ (t.cs A1 m c1) _ _ U2.out)
      have V3 := Lib.hid ((setRow_other _ wo.heap.size _ (t.cs A1 m c1) (by omega)).trans V2.out)
      have O3 := Lib.hid (ownVR (k := wo.heap.size) O2.out (by have := HW2.out; omega) (t.cs A1 m c1))
      have B3 := below_setRow B2 (g := wo.heap.size) (by have := HZ.out; omega) (t.cs A1 m c1)
      clear P2 T2 G2 U2 V2 O2
      generalize w3.setRow (wo.heap.size) (t.cs A1 m c1) = w4 at *
      have HW4 := Lib.hid (bkLt V3.out)
      have CB := Lib.hid (gives_calls (GB.out A c0 b o HC0.out HNO.out w4 (HD.out.later B3)))
      go_upto_region 19 with (first
        | (refine wpLoadAsk rfl _ rfl (w.heap.size) rfl q s A n c0 P3.out ?_)
        | (go_at_call 35; (with_reducible refine Calls.mono (CB.out) ?_); rintro e w5 ⟨A2, c2, rfl, hO2, hb_w5⟩; have P4 := Lib.hid (bkBelow P3.out hb_w5); have T4 := Lib.hid (bkBelow T3.out hb_w5); have G4 := Lib.hid (bkBelow G3.out hb_w5); have U4 := Lib.hid (bkBelow U3.out hb_w5); have V4 := Lib.hid (bkBelow V3.out hb_w5); have O4 := Lib.hid (ownV O3.out hb_w5); have B4 := bdT B3 B3.size hb_w5; have R4 := Lib.hid (hO2); clear P3 T3 G3 U3 V3 O3; clear hb_w5)
        | (refine wpList_store_row rfl 24 (.tmp 6) (.tmp 44) rfl ((wo.heap.size + 1)) (t.cs A2 m c2) rfl rfl 24 _ V4.out (S.i24 _ _ _ _) (S.sz S.zero _ none _ 0 0 _ _) (S.one _ _ _ _) ?_))
      have P5 := Lib.hid ((setRow_other _ (wo.heap.size + 1) _ (t.cs A2 m c2) (by have := HZ.out; omega)).trans P4.out)
      have T5 := Lib.hid ((setRow_other _ (wo.heap.size + 1) _ (t.cs A2 m c2) (by have := HZ.out; omega)).trans T4.out)
      have G5 := Lib.hid ((setRow_other _ (wo.heap.size + 1) _ (t.cs A2 m c2) (by have := HZ.out; omega)).trans G4.out)
      have U5 := Lib.hid ((setRow_other _ (wo.heap.size + 1) _ (t.cs A2 m c2) (by omega)).trans U4.out)
      have V5 := Lib.hid (setRow_heap _ _ _ (t.cs A2 m c2) _ _ V4.out)
      have O5 := Lib.hid (ownVR (k := (wo.heap.size + 1)) O4.out (by have := HW2.out; omega) (t.cs A2 m c2))
      have R5 := Lib.hid (ownVR (k := (wo.heap.size + 1)) R4.out (by have := HW4.out; omega) (t.cs A2 m c2))
      have B5 := below_setRow B4 (g := (wo.heap.size + 1)) (by have := HZ.out; omega) (t.cs A2 m c2)
      clear P4 T4 G4 U4 V4 O4 R4
      generalize w5.setRow ((wo.heap.size + 1)) (t.cs A2 m c2) = w6 at *
      obtain ⟨ba, oa, hda, hka⟩ := ownDat O5.out
      obtain ⟨bb, ob, hdb, _⟩ := ownDat R5.out
      have LK := Lib.hid (alike_yes t A1 m c1 A2 c2 ba oa bb ob ys HM.out w6 hda hdb)
      have VL := Lib.hid fun (W : World) (h : DataAt W A1 m ba oa ys) => valid_any t A1 m c1 ba oa ys (by have := HM.out; omega) hka W h
      have DA := Lib.hid hda
      clear hda hdb hka
      have ev : (er != er) = false := by simp
      by_cases h0 : er = 0
      · have HV := HEV.out h0
        rw [HV] at VL
        have e1 : (er == 0) = true := by simp [h0]
        clear h0 HV
        go_upto_region 21 with (first
          | (refine gdOn (by rfl) ?_; refine wpList_load_row rfl 24 (.tmp 5) rfl (wo.heap.size) rfl 24 _ (0, 0) _ U5.out Try.underlying24 rfl (S.i24 _ _ _ _) ?_)
          | (refine gdOn (by rfl) ?_; refine wpList_load_row rfl 24 (.tmp 6) rfl ((wo.heap.size + 1)) rfl 24 _ (0, 0) _ V5.out Try.underlying24 rfl (S.i24 _ _ _ _) ?_)
          | (go_at_call 33; (with_reducible refine Calls.mono (LK.out) ?_); rintro e w7 ⟨rfl, hb_w7⟩; have DB := Lib.hid (DA.out.later hb_w7); have P6 := Lib.hid (bkBelow P5.out hb_w7); have T6 := Lib.hid (bkBelow T5.out hb_w7); have G6 := Lib.hid (bkBelow G5.out hb_w7); have U6 := Lib.hid (bkBelow U5.out hb_w7); have V6 := Lib.hid (bkBelow V5.out hb_w7); have O6 := Lib.hid (ownV O5.out hb_w7); have R6 := Lib.hid (ownV R5.out hb_w7); have B6 := bdT B5 B5.size hb_w7; clear P5 T5 G5 U5 V5 O5 R5; clear hb_w7)
          | (refine gdOn (by rfl) ?_; refine wpList_load_row rfl 24 (.tmp 5) rfl (wo.heap.size) rfl 24 _ (0, 0) _ U6.out Try.underlying24 rfl (S.i24 _ _ _ _) ?_)
          | (go_at_call 15; (with_reducible refine Calls.mono (VL.out _ DB.out) ?_); rintro e w8 ⟨rfl, hb_w8⟩; have P7 := Lib.hid (bkBelow P6.out hb_w8); have T7 := Lib.hid (bkBelow T6.out hb_w8); have G7 := Lib.hid (bkBelow G6.out hb_w8); have U7 := Lib.hid (bkBelow U6.out hb_w8); have V7 := Lib.hid (bkBelow V6.out hb_w8); have O7 := Lib.hid (ownV O6.out hb_w8); have R7 := Lib.hid (ownV R6.out hb_w8); have B7 := bdT B6 B6.size hb_w8; clear P6 T6 G6 U6 V6 O6 R6; clear hb_w8))
        clear ev e1
        have p1 := (bkCell U7.out 1).trans (show _ = some (Value.slice A1 m c1) from rfl)
        go_upto_region 22 with (fail)
        clear p1
        have HO := Lib.hid (ownLt O7.out)
        go_loopw [109] (fun v wq => ∃ (k : Nat) (zs : Nat → Int), k ≤ m ∧ v = iv k ∧ wq.heap[w.heap.size]? = some (.cells (q.cs s A n c0) 28 (0, 0)) ∧ wq.heap[w1.heap.size]? = some (.cells (s.cs (some ⟨g, 0, none⟩) n (n + 1)) 24 (0, 0)) ∧ wq.heap[g]? = some (.cells (rw_ (cpF xs n) (n + 1)).toArray 3 (0, 0)) ∧ wq.heap[wo.heap.size]? = some (.cells (t.cs A1 m c1) 24 (0, 0)) ∧ wq.ownsRow w2.heap.size 3 1 (.slice A1 m c1) m (rw_ zs m) ∧ Below w.heap.size w wq) (fun v _ => m - (intOf v).toNat)
        case atStart => exact ⟨0, ys, by omega, rfl, P7.out, T7.out, G7.out, U7.out, O7.out, B7⟩
        case round =>
          clear P7 T7 G7 U7 V7 O7 R7 B7
          obtain ⟨k, zs, hk, rfl, hP, hT, hG, hU, hO, hB⟩ := hrel
          have NP := Lib.hid hP
          have NT := Lib.hid hT
          have NG := Lib.hid hG
          have NU := Lib.hid hU
          have NO := Lib.hid hO
          have r3 : (0 : Int) ≤ (k : Int) := by omega
          have r5 : (m : Int) ≤ 20000000000000 := by have := HM.out; omega
          clear hP hT hG hU hO
          by_cases hkm : k < m
          · have r4 : (k : Int) < (m : Int) := by omega
            obtain ⟨A3, c3, gx, e, hd, hform⟩ := ownDataV NO.out
            obtain ⟨rfl, rfl⟩ : A1 = A3 ∧ c1 = c3 := by simp only [Value.slice.injEq] at e; exact ⟨e.1, e.2.2⟩
            obtain ⟨rfl, hgx⟩ : A1 = some ⟨gx, 0, none⟩ ∧ w2.heap.size ≤ gx := by
              rcases hform with h | h
              · omega
              · exact h
            have HGX := Lib.hid hgx
            have s4 := (NO.out.cellAt k (by omega)).trans (rw_at _ m k hkm)
            have f4 := NO.out.frozenAt k
            have p1 := (bkCell NU.out 1).trans (show _ = some (Value.slice (some ⟨gx, 0, none⟩) m c1) from rfl)
            clear hd hform hgx e
            go_upto_region 25 with (fail)
            have P9 := Lib.hid (bkFar NP.out (p := ⟨gx, k, none⟩) (by have := HGX.out; have := HZ.out; have := HW2.out; simp; omega) (iv 0))
            have T9 := Lib.hid (bkFar NT.out (p := ⟨gx, k, none⟩) (by have := HGX.out; have := HZ.out; have := HW2.out; simp; omega) (iv 0))
            have G9 := Lib.hid (bkFar NG.out (p := ⟨gx, k, none⟩) (by have := HGX.out; have := HZ.out; have := HW2.out; simp; omega) (iv 0))
            have U9 := Lib.hid (bkFar NU.out (p := ⟨gx, k, none⟩) (by have := HGX.out; have := HZ.out; have := HW2.out; simp; omega) (iv 0))
            have O9 := Lib.hid (ownN (NO.out.stored k (iv 0)).1 (rw_set _ m k _))
            have B9 := hB.setCell (p := ⟨gx, k, none⟩) (by have := HGX.out; have := HZ.out; have := HW2.out; simp; omega) (iv 0)
            clear s4 f4 p1
            go_wp2
            exact ⟨⟨k + 1, _, by omega, by go_num, P9.out, T9.out, G9.out, U9.out, O9.out, B9⟩, by simp [intOf]; omega⟩
          · obtain rfl : k = m := by omega
            have UC := Lib.hid (untouched_yes s A n c0 b o g xs HNB.out wr (HD.out.later hB) NG.out)
            go_wp2_with (first
              | (refine wpList_load_row rfl 24 (.tmp 3) rfl (w1.heap.size) rfl 24 _ (0, 0) _ NT.out Try.underlying24 rfl (S.i24 _ _ _ _) ?_)
              | (refine wpLoadAsk rfl _ rfl (w.heap.size) rfl q s A n c0 NP.out ?_)
              | (go_at_call 28; (with_reducible refine UC.out.mono ?_); rintro e wz ⟨rfl, hbz⟩; have P9 := Lib.hid (bkBelow NP.out hbz); have T9 := Lib.hid (bkBelow NT.out hbz); have G9 := Lib.hid (bkBelow NG.out hbz); have B9 := bdT hB hB.size hbz))
            exact ⟨⟨1, by omega, by go_num, P9.out, T9.out, G9.out, B9⟩, by simp [intOf]⟩
      · have e1 : (er == 0) = false := by simp [h0]
        clear h0
        go_upto_region 21 with (first
          | (refine gdOn (by rfl) ?_; refine wpList_load_row rfl 24 (.tmp 5) rfl (wo.heap.size) rfl 24 _ (0, 0) _ U5.out Try.underlying24 rfl (S.i24 _ _ _ _) ?_)
          | (refine gdOn (by rfl) ?_; refine wpList_load_row rfl 24 (.tmp 6) rfl ((wo.heap.size + 1)) rfl 24 _ (0, 0) _ V5.out Try.underlying24 rfl (S.i24 _ _ _ _) ?_)
          | (go_at_call 33; (with_reducible refine Calls.mono (LK.out) ?_); rintro e w7 ⟨rfl, hb_w7⟩; have DB := Lib.hid (DA.out.later hb_w7); have P6 := Lib.hid (bkBelow P5.out hb_w7); have T6 := Lib.hid (bkBelow T5.out hb_w7); have G6 := Lib.hid (bkBelow G5.out hb_w7); have U6 := Lib.hid (bkBelow U5.out hb_w7); have V6 := Lib.hid (bkBelow V5.out hb_w7); have O6 := Lib.hid (ownV O5.out hb_w7); have R6 := Lib.hid (ownV R5.out hb_w7); have B6 := bdT B5 B5.size hb_w7; clear P5 T5 G5 U5 V5 O5 R5; clear hb_w7))
        clear ev e1
        have p1 := (bkCell U6.out 1).trans (show _ = some (Value.slice A1 m c1) from rfl)
        go_upto_region 22 with (fail)
        clear p1
        have HO := Lib.hid (ownLt O6.out)
        go_loopw [109] (fun v wq => ∃ (k : Nat) (zs : Nat → Int), k ≤ m ∧ v = iv k ∧ wq.heap[w.heap.size]? = some (.cells (q.cs s A n c0) 28 (0, 0)) ∧ wq.heap[w1.heap.size]? = some (.cells (s.cs (some ⟨g, 0, none⟩) n (n + 1)) 24 (0, 0)) ∧ wq.heap[g]? = some (.cells (rw_ (cpF xs n) (n + 1)).toArray 3 (0, 0)) ∧ wq.heap[wo.heap.size]? = some (.cells (t.cs A1 m c1) 24 (0, 0)) ∧ wq.ownsRow w2.heap.size 3 1 (.slice A1 m c1) m (rw_ zs m) ∧ Below w.heap.size w wq) (fun v _ => m - (intOf v).toNat)
        case atStart => exact ⟨0, ys, by omega, rfl, P6.out, T6.out, G6.out, U6.out, O6.out, B6⟩
        case round =>
          clear P6 T6 G6 U6 V6 O6 R6 B6
          obtain ⟨k, zs, hk, rfl, hP, hT, hG, hU, hO, hB⟩ := hrel
          have NP := Lib.hid hP
          have NT := Lib.hid hT
          have NG := Lib.hid hG
          have NU := Lib.hid hU
          have NO := Lib.hid hO
          have r3 : (0 : Int) ≤ (k : Int) := by omega
          have r5 : (m : Int) ≤ 20000000000000 := by have := HM.out; omega
          clear hP hT hG hU hO
          by_cases hkm : k < m
          · have r4 : (k : Int) < (m : Int) := by omega
            obtain ⟨A3, c3, gx, e, hd, hform⟩ := ownDataV NO.out
            obtain ⟨rfl, rfl⟩ : A1 = A3 ∧ c1 = c3 := by simp only [Value.slice.injEq] at e; exact ⟨e.1, e.2.2⟩
            obtain ⟨rfl, hgx⟩ : A1 = some ⟨gx, 0, none⟩ ∧ w2.heap.size ≤ gx := by
              rcases hform with h | h
              · omega
              · exact h
            have HGX := Lib.hid hgx
            have s4 := (NO.out.cellAt k (by omega)).trans (rw_at _ m k hkm)
            have f4 := NO.out.frozenAt k
            have p1 := (bkCell NU.out 1).trans (show _ = some (Value.slice (some ⟨gx, 0, none⟩) m c1) from rfl)
            clear hd hform hgx e
            go_upto_region 25 with (fail)
            have P9 := Lib.hid (bkFar NP.out (p := ⟨gx, k, none⟩) (by have := HGX.out; have := HZ.out; have := HW2.out; simp; omega) (iv 0))
            have T9 := Lib.hid (bkFar NT.out (p := ⟨gx, k, none⟩) (by have := HGX.out; have := HZ.out; have := HW2.out; simp; omega) (iv 0))
            have G9 := Lib.hid (bkFar NG.out (p := ⟨gx, k, none⟩) (by have := HGX.out; have := HZ.out; have := HW2.out; simp; omega) (iv 0))
            have U9 := Lib.hid (bkFar NU.out (p := ⟨gx, k, none⟩) (by have := HGX.out; have := HZ.out; have := HW2.out; simp; omega) (iv 0))
            have O9 := Lib.hid (ownN (NO.out.stored k (iv 0)).1 (rw_set _ m k _))
            have B9 := hB.setCell (p := ⟨gx, k, none⟩) (by have := HGX.out; have := HZ.out; have := HW2.out; simp; omega) (iv 0)
            clear s4 f4 p1
            go_wp2
            exact ⟨⟨k + 1, _, by omega, by go_num, P9.out, T9.out, G9.out, U9.out, O9.out, B9⟩, by simp [intOf]; omega⟩
          · obtain rfl : k = m := by omega
            have UC := Lib.hid (untouched_yes s A n c0 b o g xs HNB.out wr (HD.out.later hB) NG.out)
            go_wp2_with (first
              | (refine wpList_load_row rfl 24 (.tmp 3) rfl (w1.heap.size) rfl 24 _ (0, 0) _ NT.out Try.underlying24 rfl (S.i24 _ _ _ _) ?_)
              | (refine wpLoadAsk rfl _ rfl (w.heap.size) rfl q s A n c0 NP.out ?_)
              | (go_at_call 28; (with_reducible refine UC.out.mono ?_); rintro e wz ⟨rfl, hbz⟩; have P9 := Lib.hid (bkBelow NP.out hbz); have T9 := Lib.hid (bkBelow NT.out hbz); have G9 := Lib.hid (bkBelow NG.out hbz); have B9 := bdT hB hB.size hbz))
            exact ⟨⟨1, by omega, by go_num, P9.out, T9.out, G9.out, B9⟩, by simp [intOf]⟩
    · skip
      have K0 : Below wo.heap.size wo ((wo.alloc (Obj.cells #[Value.string ⟨#[]⟩, Value.slice none 0 0, iv 0, iv 0, iv 0, iv 0, iv 0, iv 0, iv 0, iv 0, iv 0, iv 0, iv 0] 24)).alloc (Obj.cells #[Value.string ⟨#[]⟩, Value.slice none 0 0, iv 0, iv 0, iv 0, iv 0, iv 0, iv 0, iv 0, iv 0, iv 0, iv 0, iv 0] 24)) := ((Below.refl _ _).alloc (Nat.le_refl _) _).alloc (by simp) _
      have P1 := Lib.hid (bkBelow hP K0)
      have T1 := Lib.hid (bkBelow hT K0)
      have G1 := Lib.hid (bkBelow hG K0)
      have U1 := Lib.hid (heap_alloc2_old wo (Obj.cells #[Value.string ⟨#[]⟩, Value.slice none 0 0, iv 0, iv 0, iv 0, iv 0, iv 0, iv 0, iv 0, iv 0, iv 0, iv 0, iv 0] 24) (Obj.cells #[Value.string ⟨#[]⟩, Value.slice none 0 0, iv 0, iv 0, iv 0, iv 0, iv 0, iv 0, iv 0, iv 0, iv 0, iv 0, iv 0] 24))
      have V1 := Lib.hid (heap_alloc2_new wo (Obj.cells #[Value.string ⟨#[]⟩, Value.slice none 0 0, iv 0, iv 0, iv 0, iv 0, iv 0, iv 0, iv 0, iv 0, iv 0, iv 0, iv 0] 24) (Obj.cells #[Value.string ⟨#[]⟩, Value.slice none 0 0, iv 0, iv 0, iv 0, iv 0, iv 0, iv 0, iv 0, iv 0, iv 0, iv 0, iv 0] 24))
      have B1 := bdT hB hB.size K0
      clear hP hT hG hB K0
      go_upto_region 6 with (fail)
      have HW2 := Lib.hid (show wo.heap.size + 1 < ((wo.alloc (Obj.cells #[Value.string ⟨#[]⟩, Value.slice none 0 0, iv 0, iv 0, iv 0, iv 0, iv 0, iv 0, iv 0, iv 0, iv 0, iv 0, iv 0] 24)).alloc (Obj.cells #[Value.string ⟨#[]⟩, Value.slice none 0 0, iv 0, iv 0, iv 0, iv 0, iv 0, iv 0, iv 0, iv 0, iv 0, iv 0, iv 0] 24)).heap.size from bkLt V1.out)
      generalize (wo.alloc (Obj.cells #[Value.string ⟨#[]⟩, Value.slice none 0 0, iv 0, iv 0, iv 0, iv 0, iv 0, iv 0, iv 0, iv 0, iv 0, iv 0, iv 0] 24)).alloc (Obj.cells #[Value.string ⟨#[]⟩, Value.slice none 0 0, iv 0, iv 0, iv 0, iv 0, iv 0, iv 0, iv 0, iv 0, iv 0, iv 0, iv 0] 24) = w2 at *
      obtain ⟨t, m, ys, er, hm, hev, ga0, gb0⟩ := both_crop s n xs q.fr q.tz HNN.out
      have GA := Lib.hid ga0
      have GB := Lib.hid gb0
      have HM := Lib.hid hm
      have HEV := Lib.hid hev
      clear ga0 gb0 hm hev
      have z21 := (bkCell P1.out 21).trans (show _ = some (iv q.fr) from rfl)
      have z22 := (bkCell P1.out 22).trans (show _ = some (iv q.tz) from rfl)
      have CA := Lib.hid (gives_calls (GA.out (some ⟨g, 0, none⟩) (n + 1) g 0 (Nat.le_succ n) w2 (cpData G1.out)))
      go_upto_region 15 with (first
        | (refine wpList_load_row rfl 24 (.tmp 3) rfl (w1.heap.size) rfl 24 _ (0, 0) _ T1.out Try.underlying24 rfl (S.i24 _ _ _ _) ?_)
        | (go_at_call 32; (with_reducible refine Calls.mono (CA.out) ?_); rintro e w3 ⟨A1, c1, rfl, hO1, hb_w3⟩; have P2 := Lib.hid (bkBelow P1.out hb_w3); have T2 := Lib.hid (bkBelow T1.out hb_w3); have G2 := Lib.hid (bkBelow G1.out hb_w3); have U2 := Lib.hid (bkBelow U1.out hb_w3); have V2 := Lib.hid (bkBelow V1.out hb_w3); have B2 := bdT B1 B1.size hb_w3; have O2 := Lib.hid (hO1); clear P1 T1 G1 U1 V1; clear hb_w3)
        | (refine wpList_store_row rfl 24 (.tmp 5) (.tmp 55) rfl (wo.heap.size) (t.cs A1 m c1) rfl rfl 24 _ U2.out (S.i24 _ _ _ _) (S.sz S.zero _ none _ 0 0 _ _) (S.one _ _ _ _) ?_))
      clear z21 z22
      have P3 := Lib.hid ((setRow_other _ wo.heap.size _ (t.cs A1 m c1) (by have := HZ.out; omega)).trans P2.out)
      have T3 := Lib.hid ((setRow_other _ wo.heap.size _ (t.cs A1 m c1) (by have := HZ.out; omega)).trans T2.out)
      have G3 := Lib.hid ((setRow_other _ wo.heap.size _ (t.cs A1 m c1) (by have := HZ.out; omega)).trans G2.out)
      have U3 := Lib.hid (setRow_heap _ _ _ (t.cs A1 m c1) _ _ U2.out)
      have V3 := Lib.hid ((setRow_other _ wo.heap.size _ (t.cs A1 m c1) (by omega)).trans V2.out)
      have O3 := Lib.hid (ownVR (k := wo.heap.size) O2.out (by have := HW2.out; omega) (t.cs A1 m c1))
      have B3 := below_setRow B2 (g := wo.heap.size) (by have := HZ.out; omega) (t.cs A1 m c1)
      clear P2 T2 G2 U2 V2 O2
      generalize w3.setRow (wo.heap.size) (t.cs A1 m c1) = w4 at *
      have z21 := (bkCell P3.out 21).trans (show _ = some (iv q.fr) from rfl)
      have z22 := (bkCell P3.out 22).trans (show _ = some (iv q.tz) from rfl)
      have HW4 := Lib.hid (bkLt V3.out)
      have CB := Lib.hid (gives_calls (GB.out A c0 b o HC0.out HNO.out w4 (HD.out.later B3)))
      go_upto_region 19 with (first
        | (refine wpLoadAsk rfl _ rfl (w.heap.size) rfl q s A n c0 P3.out ?_)
        | (go_at_call 36; (with_reducible refine Calls.mono (CB.out) ?_); rintro e w5 ⟨A2, c2, rfl, hO2, hb_w5⟩; have P4 := Lib.hid (bkBelow P3.out hb_w5); have T4 := Lib.hid (bkBelow T3.out hb_w5); have G4 := Lib.hid (bkBelow G3.out hb_w5); have U4 := Lib.hid (bkBelow U3.out hb_w5); have V4 := Lib.hid (bkBelow V3.out hb_w5); have O4 := Lib.hid (ownV O3.out hb_w5); have B4 := bdT B3 B3.size hb_w5; have R4 := Lib.hid (hO2); clear P3 T3 G3 U3 V3 O3; clear hb_w5)
        | (refine wpList_store_row rfl 24 (.tmp 6) (.tmp 65) rfl ((wo.heap.size + 1)) (t.cs A2 m c2) rfl rfl 24 _ V4.out (S.i24 _ _ _ _) (S.sz S.zero _ none _ 0 0 _ _) (S.one _ _ _ _) ?_))
      clear z21 z22
      have P5 := Lib.hid ((setRow_other _ (wo.heap.size + 1) _ (t.cs A2 m c2) (by have := HZ.out; omega)).trans P4.out)
      have T5 := Lib.hid ((setRow_other _ (wo.heap.size + 1) _ (t.cs A2 m c2) (by have := HZ.out; omega)).trans T4.out)
      have G5 := Lib.hid ((setRow_other _ (wo.heap.size + 1) _ (t.cs A2 m c2) (by have := HZ.out; omega)).trans G4.out)
      have U5 := Lib.hid ((setRow_other _ (wo.heap.size + 1) _ (t.cs A2 m c2) (by omega)).trans U4.out)
      have V5 := Lib.hid (setRow_heap _ _ _ (t.cs A2 m c2) _ _ V4.out)
      have O5 := Lib.hid (ownVR (k := (wo.heap.size + 1)) O4.out (by have := HW2.out; omega) (t.cs A2 m c2))
      have R5 := Lib.hid (ownVR (k := (wo.heap.size + 1)) R4.out (by have := HW4.out; omega) (t.cs A2 m c2))
      have B5 := below_setRow B4 (g := (wo.heap.size + 1)) (by have := HZ.out; omega) (t.cs A2 m c2)
      clear P4 T4 G4 U4 V4 O4 R4
      generalize w5.setRow ((wo.heap.size + 1)) (t.cs A2 m c2) = w6 at *
      obtain ⟨ba, oa, hda, hka⟩ := ownDat O5.out
      obtain ⟨bb, ob, hdb, _⟩ := ownDat R5.out
      have LK := Lib.hid (alike_yes t A1 m c1 A2 c2 ba oa bb ob ys HM.out w6 hda hdb)
      have VL := Lib.hid fun (W : World) (h : DataAt W A1 m ba oa ys) => valid_any t A1 m c1 ba oa ys (by have := HM.out; omega) hka W h
      have DA := Lib.hid hda
      clear hda hdb hka
      have ev : (er != er) = false := by simp
      by_cases h0 : er = 0
      · have HV := HEV.out h0
        rw [HV] at VL
        have e1 : (er == 0) = true := by simp [h0]
        clear h0 HV
        go_upto_region 21 with (first
          | (refine gdOn (by rfl) ?_; refine wpList_load_row rfl 24 (.tmp 5) rfl (wo.heap.size) rfl 24 _ (0, 0) _ U5.out Try.underlying24 rfl (S.i24 _ _ _ _) ?_)
          | (refine gdOn (by rfl) ?_; refine wpList_load_row rfl 24 (.tmp 6) rfl ((wo.heap.size + 1)) rfl 24 _ (0, 0) _ V5.out Try.underlying24 rfl (S.i24 _ _ _ _) ?_)
          | (go_at_call 33; (with_reducible refine Calls.mono (LK.out) ?_); rintro e w7 ⟨rfl, hb_w7⟩; have DB := Lib.hid (DA.out.later hb_w7); have P6 := Lib.hid (bkBelow P5.out hb_w7); have T6 := Lib.hid (bkBelow T5.out hb_w7); have G6 := Lib.hid (bkBelow G5.out hb_w7); have U6 := Lib.hid (bkBelow U5.out hb_w7); have V6 := Lib.hid (bkBelow V5.out hb_w7); have O6 := Lib.hid (ownV O5.out hb_w7); have R6 := Lib.hid (ownV R5.out hb_w7); have B6 := bdT B5 B5.size hb_w7; clear P5 T5 G5 U5 V5 O5 R5; clear hb_w7)
          | (refine gdOn (by rfl) ?_; refine wpList_load_row rfl 24 (.tmp 5) rfl (wo.heap.size) rfl 24 _ (0, 0) _ U6.out Try.underlying24 rfl (S.i24 _ _ _ _) ?_)
          | (go_at_call 15; (with_reducible refine Calls.mono (VL.out _ DB.out) ?_); rintro e w8 ⟨rfl, hb_w8⟩; have P7 := Lib.hid (bkBelow P6.out hb_w8); have T7 := Lib.hid (bkBelow T6.out hb_w8); have G7 := Lib.hid (bkBelow G6.out hb_w8); have U7 := Lib.hid (bkBelow U6.out hb_w8); have V7 := Lib.hid (bkBelow V6.out hb_w8); have O7 := Lib.hid (ownV O6.out hb_w8); have R7 := Lib.hid (ownV R6.out hb_w8); have B7 := bdT B6 B6.size hb_w8; clear P6 T6 G6 U6 V6 O6 R6; clear hb_w8))
        clear ev e1
        have p1 := (bkCell U7.out 1).trans (show _ = some (Value.slice A1 m c1) from rfl)
        go_upto_region 22 with (fail)
        clear p1
        have HO := Lib.hid (ownLt O7.out)
        go_loopw [109] (fun v wq => ∃ (k : Nat) (zs : Nat → Int), k ≤ m ∧ v = iv k ∧ wq.heap[w.heap.size]? = some (.cells (q.cs s A n c0) 28 (0, 0)) ∧ wq.heap[w1.heap.size]? = some (.cells (s.cs (some ⟨g, 0, none⟩) n (n + 1)) 24 (0, 0)) ∧ wq.heap[g]? = some (.cells (rw_ (cpF xs n) (n + 1)).toArray 3 (0, 0)) ∧ wq.heap[wo.heap.size]? = some (.cells (t.cs A1 m c1) 24 (0, 0)) ∧ wq.ownsRow w2.heap.size 3 1 (.slice A1 m c1) m (rw_ zs m) ∧ Below w.heap.size w wq) (fun v _ => m - (intOf v).toNat)
        case atStart => exact ⟨0, ys, by omega, rfl, P7.out, T7.out, G7.out, U7.out, O7.out, B7⟩
        case round =>
          clear P7 T7 G7 U7 V7 O7 R7 B7
          obtain ⟨k, zs, hk, rfl, hP, hT, hG, hU, hO, hB⟩ := hrel
          have NP := Lib.hid hP
          have NT := Lib.hid hT
          have NG := Lib.hid hG
          have NU := Lib.hid hU
          have NO := Lib.hid hO
          have r3 : (0 : Int) ≤ (k : Int) := by omega
          have r5 : (m : Int) ≤ 20000000000000 := by have := HM.out; omega
          clear hP hT hG hU hO
          by_cases hkm : k < m
          · have r4 : (k : Int) < (m : Int) := by omega
            obtain ⟨A3, c3, gx, e, hd, hform⟩ := ownDataV NO.out
            obtain ⟨rfl, rfl⟩ : A1 = A3 ∧ c1 = c3 := by simp only [Value.slice.injEq] at e; exact ⟨e.1, e.2.2⟩
            obtain ⟨rfl, hgx⟩ : A1 = some ⟨gx, 0, none⟩ ∧ w2.heap.size ≤ gx := by
              rcases hform with h | h
              · omega
              · exact h
            have HGX := Lib.hid hgx
            have s4 := (NO.out.cellAt k (by omega)).trans (rw_at _ m k hkm)
            have f4 := NO.out.frozenAt k
            have p1 := (bkCell NU.out 1).trans (show _ = some (Value.slice (some ⟨gx, 0, none⟩) m c1) from rfl)
            clear hd hform hgx e
            go_upto_region 25 with (fail)
            have P9 := Lib.hid (bkFar NP.out (p := ⟨gx, k, none⟩) (by have := HGX.out; have := HZ.out; have := HW2.out; simp; omega) (iv 0))
            have T9 := Lib.hid (bkFar NT.out (p := ⟨gx, k, none⟩) (by have := HGX.out; have := HZ.out; have := HW2.out; simp; omega) (iv 0))
            have G9 := Lib.hid (bkFar NG.out (p := ⟨gx, k, none⟩) (by have := HGX.out; have := HZ.out; have := HW2.out; simp; omega) (iv 0))
            have U9 := Lib.hid (bkFar NU.out (p := ⟨gx, k, none⟩) (by have := HGX.out; have := HZ.out; have := HW2.out; simp; omega) (iv 0))
            have O9 := Lib.hid (ownN (NO.out.stored k (iv 0)).1 (rw_set _ m k _))
            have B9 := hB.setCell (p := ⟨gx, k, none⟩) (by have := HGX.out; have := HZ.out; have := HW2.out; simp; omega) (iv 0)
            clear s4 f4 p1
            go_wp2
            exact ⟨⟨k + 1, _, by omega, by go_num, P9.out, T9.out, G9.out, U9.out, O9.out, B9⟩, by simp [intOf]; omega⟩
          · obtain rfl : k = m := by omega
            have UC := Lib.hid (untouched_yes s A n c0 b o g xs HNB.out wr (HD.out.later hB) NG.out)
            go_wp2_with (first
              | (refine wpList_load_row rfl 24 (.tmp 3) rfl (w1.heap.size) rfl 24 _ (0, 0) _ NT.out Try.underlying24 rfl (S.i24 _ _ _ _) ?_)
              | (refine wpLoadAsk rfl _ rfl (w.heap.size) rfl q s A n c0 NP.out ?_)
              | (go_at_call 28; (with_reducible refine UC.out.mono ?_); rintro e wz ⟨rfl, hbz⟩; have P9 := Lib.hid (bkBelow NP.out hbz); have T9 := Lib.hid (bkBelow NT.out hbz); have G9 := Lib.hid (bkBelow NG.out hbz); have B9 := bdT hB hB.size hbz))
            exact ⟨⟨2, by omega, by go_num, P9.out, T9.out, G9.out, B9⟩, by simp [intOf]⟩
      · have e1 : (er == 0) = false := by simp [h0]
        clear h0
        go_upto_region 21 with (first
          | (refine gdOn (by rfl) ?_; refine wpList_load_row rfl 24 (.tmp 5) rfl (wo.heap.size) rfl 24 _ (0, 0) _ U5.out Try.underlying24 rfl (S.i24 _ _ _ _) ?_)
          | (refine gdOn (by rfl) ?_; refine wpList_load_row rfl 24 (.tmp 6) rfl ((wo.heap.size + 1)) rfl 24 _ (0, 0) _ V5.out Try.underlying24 rfl (S.i24 _ _ _ _) ?_)
          | (go_at_call 33; (with_reducible refine Calls.mono (LK.out) ?_); rintro e w7 ⟨rfl, hb_w7⟩; have DB := Lib.hid (DA.out.later hb_w7); have P6 := Lib.hid (bkBelow P5.out hb_w7); have T6 := Lib.hid (bkBelow T5.out hb_w7); have G6 := Lib.hid (bkBelow G5.out hb_w7); have U6 := Lib.hid (bkBelow U5.out hb_w7); have V6 := Lib.hid (bkBelow V5.out hb_w7); have O6 := Lib.hid (ownV O5.out hb_w7); have R6 := Lib.hid (ownV R5.out hb_w7); have B6 := bdT B5 B5.size hb_w7; clear P5 T5 G5 U5 V5 O5 R5; clear hb_w7))
        clear ev e1
        have p1 := (bkCell U6.out 1).trans (show _ = some (Value.slice A1 m c1) from rfl)
        go_upto_region 22 with (fail)
        clear p1
        have HO := Lib.hid (ownLt O6.out)
        go_loopw [109] (fun v wq => ∃ (k : Nat) (zs : Nat → Int), k ≤ m ∧ v = iv k ∧ wq.heap[w.heap.size]? = some (.cells (q.cs s A n c0) 28 (0, 0)) ∧ wq.heap[w1.heap.size]? = some (.cells (s.cs (some ⟨g, 0, none⟩) n (n + 1)) 24 (0, 0)) ∧ wq.heap[g]? = some (.cells (rw_ (cpF xs n) (n + 1)).toArray 3 (0, 0)) ∧ wq.heap[wo.heap.size]? = some (.cells (t.cs A1 m c1) 24 (0, 0)) ∧ wq.ownsRow w2.heap.size 3 1 (.slice A1 m c1) m (rw_ zs m) ∧ Below w.heap.size w wq) (fun v _ => m - (intOf v).toNat)
        case atStart => exact ⟨0, ys, by omega, rfl, P6.out, T6.out, G6.out, U6.out, O6.out, B6⟩
        case round =>
          clear P6 T6 G6 U6 V6 O6 R6 B6
          obtain ⟨k, zs, hk, rfl, hP, hT, hG, hU, hO, hB⟩ := hrel
          have NP := Lib.hid hP
          have NT := Lib.hid hT
          have NG := Lib.hid hG
          have NU := Lib.hid hU
          have NO := Lib.hid hO
          have r3 : (0 : Int) ≤ (k : Int) := by omega
          have r5 : (m : Int) ≤ 20000000000000 := by have := HM.out; omega
          clear hP hT hG hU hO
          by_cases hkm : k < m
          · have r4 : (k : Int) < (m : Int) := by omega
            obtain ⟨A3, c3, gx, e, hd, hform⟩ := ownDataV NO.out
            obtain ⟨rfl, rfl⟩ : A1 = A3 ∧ c1 = c3 := by simp only [Value.slice.injEq] at e; exact ⟨e.1, e.2.2⟩
            obtain ⟨rfl, hgx⟩ : A1 = some ⟨gx, 0, none⟩ ∧ w2.heap.size ≤ gx := by
              rcases hform with h | h
              · omega
              · exact h
            have HGX := Lib.hid hgx
            have s4 := (NO.out.cellAt k (by omega)).trans (rw_at _ m k hkm)
            have f4 := NO.out.frozenAt k
            have p1 := (bkCell NU.out 1).trans (show _ = some (Value.slice (some ⟨gx, 0, none⟩) m c1) from rfl)
            clear hd hform hgx e
            go_upto_region 25 with (fail)
            have P9 := Lib.hid (bkFar NP.out (p := ⟨gx, k, none⟩) (by have := HGX.out; have := HZ.out; have := HW2.out; simp; omega) (iv 0))
            have T9 := Lib.hid (bkFar NT.out (p := ⟨gx, k, none⟩) (by have := HGX.out; have := HZ.out; have := HW2.out; simp; omega) (iv 0))
            have G9 := Lib.hid (bkFar NG.out (p := ⟨gx, k, none⟩) (by have := HGX.out; have := HZ.out; have := HW2.out; simp; omega) (iv 0))
            have U9 := Lib.hid (bkFar NU.out (p := ⟨gx, k, none⟩) (by have := HGX.out; have := HZ.out; have := HW2.out; simp; omega) (iv 0))
            have O9 := Lib.hid (ownN (NO.out.stored k (iv 0)).1 (rw_set _ m k _))
            have B9 := hB.setCell (p := ⟨gx, k, none⟩) (by have := HGX.out; have := HZ.out; have := HW2.out; simp; omega) (iv 0)
            clear s4 f4 p1
            go_wp2
            exact ⟨⟨k + 1, _, by omega, by go_num, P9.out, T9.out, G9.out, U9.out, O9.out, B9⟩, by simp [intOf]; omega⟩
          · obtain rfl : k = m := by omega
            have UC := Lib.hid (untouched_yes s A n c0 b o g xs HNB.out wr (HD.out.later hB) NG.out)
            go_wp2_with (first
              | (refine wpList_load_row rfl 24 (.tmp 3) rfl (w1.heap.size) rfl 24 _ (0, 0) _ NT.out Try.underlying24 rfl (S.i24 _ _ _ _) ?_)
              | (refine wpLoadAsk rfl _ rfl (w.heap.size) rfl q s A n c0 NP.out ?_)
              | (go_at_call 28; (with_reducible refine UC.out.mono ?_); rintro e wz ⟨rfl, hbz⟩; have P9 := Lib.hid (bkBelow NP.out hbz); have T9 := Lib.hid (bkBelow NT.out hbz); have G9 := Lib.hid (bkBelow NG.out hbz); have B9 := bdT hB hB.size hbz))
            exact ⟨⟨2, by omega, by go_num, P9.out, T9.out, G9.out, B9⟩, by simp [intOf]⟩
    · skip
      have K0 : Below wo.heap.size wo ((wo.alloc (Obj.cells #[Value.string ⟨#[]⟩, Value.slice none 0 0, iv 0, iv 0, iv 0, iv 0, iv 0, iv 0, iv 0, iv 0, iv 0, iv 0, iv 0] 24)).alloc (Obj.cells #[Value.string ⟨#[]⟩, Value.slice none 0 0, iv 0, iv 0, iv 0, iv 0, iv 0, iv 0, iv 0, iv 0, iv 0, iv 0, iv 0] 24)) := ((Below.refl _ _).alloc (Nat.le_refl _) _).alloc (by simp) _
      have P1 := Lib.hid (bkBelow hP K0)
      have T1 := Lib.hid (bkBelow hT K0)
      have G1 := Lib.hid (bkBelow hG K0)
      have U1 := Lib.hid (heap_alloc2_old wo (Obj.cells #[Value.string ⟨#[]⟩, Value.slice none 0 0, iv 0, iv 0, iv 0, iv 0, iv 0, iv 0, iv 0, iv 0, iv 0, iv 0, iv 0] 24) (Obj.cells #[Value.string ⟨#[]⟩, Value.slice none 0 0, iv 0, iv 0, iv 0, iv 0, iv 0, iv 0, iv 0, iv 0, iv 0, iv 0, iv 0] 24))
      have V1 := Lib.hid (heap_alloc2_new wo (Obj.cells #[Value.string ⟨#[]⟩, Value.slice none 0 0, iv 0, iv 0, iv 0, iv 0, iv 0, iv 0, iv 0, iv 0, iv 0, iv 0, iv 0] 24) (Obj.cells #[Value.string ⟨#[]⟩, Value.slice none 0 0, iv 0, iv 0, iv 0, iv 0, iv 0, iv 0, iv 0, iv 0, iv 0, iv 0, iv 0] 24))
      have B1 := bdT hB hB.size K0
      clear hP hT hG hB K0
      go_upto_region 6 with (fail)
      have HW2 := Lib.hid (show wo.heap.size + 1 < ((wo.alloc (Obj.cells #[Value.string ⟨#[]⟩, Value.slice none 0 0, iv 0, iv 0, iv 0, iv 0, iv 0, iv 0, iv 0, iv 0, iv 0, iv 0, iv 0] 24)).alloc (Obj.cells #[Value.string ⟨#[]⟩, Value.slice none 0 0, iv 0, iv 0, iv 0, iv 0, iv 0, iv 0, iv 0, iv 0, iv 0, iv 0, iv 0] 24)).heap.size from bkLt V1.out)
      generalize (wo.alloc (Obj.cells #[Value.string ⟨#[]⟩, Value.slice none 0 0, iv 0, iv 0, iv 0, iv 0, iv 0, iv 0, iv 0, iv 0, iv 0, iv 0, iv 0] 24)).alloc (Obj.cells #[Value.string ⟨#[]⟩, Value.slice none 0 0, iv 0, iv 0, iv 0, iv 0, iv 0, iv 0, iv 0, iv 0, iv 0, iv 0, iv 0] 24) = w2 at *
      obtain ⟨t, m, ys, er, hm, hev, ga0, gb0⟩ := both_amp s n xs q.nu q.de HNN.out
      have GA := Lib.hid ga0
      have GB := Lib.hid gb0
      have HM := Lib.hid hm
      have HEV := Lib.hid hev
      clear ga0 gb0 hm hev
      have z23 := (bkCell P1.out 23).trans (show _ = some (iv q.nu) from rfl)
      have z24 := (bkCell P1.out 24).trans (show _ = some (iv q.de) from rfl)
      have CA := Lib.hid (gives_calls (GA.out (some ⟨g, 0, none⟩) (n + 1) g 0 (Nat.le_succ n) w2 (cpData G1.out)))
      go_upto_region 18 with (first
        | (refine wpList_load_row rfl 24 (.tmp 3) rfl (w1.heap.size) rfl 24 _ (0, 0) _ T1.out Try.underlying24 rfl (S.i24 _ _ _ _) ?_)
        | (go_at_call 37; (with_reducible refine Calls.mono (CA.out) ?_); rintro e w3 ⟨A1, c1, rfl, hO1, hb_w3⟩; have P2 := Lib.hid (bkBelow P1.out hb_w3); have T2 := Lib.hid (bkBelow T1.out hb_w3); have G2 := Lib.hid (bkBelow G1.out hb_w3); have U2 := Lib.hid (bkBelow U1.out hb_w3); have V2 := Lib.hid (bkBelow V1.out hb_w3); have B2 := bdT B1 B1.size hb_w3; have O2 := Lib.hid (hO1); clear P1 T1 G1 U1 V1; clear hb_w3)
        | (refine wpList_store_row rfl 24 (.tmp 5) (.tmp 76) rfl (wo.heap.size) (t.cs A1 m c1) rfl rfl 24 _ U2.out (S.i24 _ _ _ _) (S.sz S.zero _ none _ 0 0 _ _) (S.one _ _ _ _) ?_))
      clear z23 z24
      have P3 := Lib.hid ((setRow_other _ wo.heap.size _ (t.cs A1 m c1) (by have := HZ.out; omega)).trans P2.out)
      have T3 := Lib.hid ((setRow_other _ wo.heap.size _ (t.cs A1 m c1) (by have := HZ.out; omega)).trans T2.out)
      have G3 := Lib.hid ((setRow_other _ wo.heap.size _ (t.cs A1 m c1) (by have := HZ.out; omega)).trans G2.out)
      have U3 := Lib.hid (setRow_heap _ _ _ (t.cs A1 m c1) _ _ U2.out)
      have V3 := Lib.hid ((setRow_other _ wo.heap.size _ (t.cs A1 m c1) (by omega)).trans V2.out)
      have O3 := Lib.hid (ownVR (k := wo.heap.size) O2.out (by have := HW2.out; omega) (t.cs A1 m c1))
      have B3 := below_setRow B2 (g := wo.heap.size) (by have := HZ.out; omega) (t.cs A1 m c1)
      clear P2 T2 G2 U2 V2 O2
      generalize w3.setRow (wo.heap.size) (t.cs A1 m c1) = w4 at *
      have z23 := (bkCell P3.out 23).trans (show _ = some (iv q.nu) from rfl)
      have z24 := (bkCell P3.out 24).trans (show _ = some (iv q.de) from rfl)
      have HW4 := Lib.hid (bkLt V3.out)
      have CB := Lib.hid (gives_calls (GB.out A c0 b o HC0.out HNO.out w4 (HD.out.later B3)))
      go_upto_region 19 with (first
        | (refine wpLoadAsk rfl _ rfl (w.heap.size) rfl q s A n c0 P3.out ?_)
        | (go_at_call 38; (with_reducible refine Calls.mono (CB.out) ?_); rintro e w5 ⟨A2, c2, rfl, hO2, hb_w5⟩; have P4 := Lib.hid (bkBelow P3.out hb_w5); have T4 := Lib.hid (bkBelow T3.out hb_w5); have G4 := Lib.hid (bkBelow G3.out hb_w5); have U4 := Lib.hid (bkBelow U3.out hb_w5); have V4 := Lib.hid (bkBelow V3.out hb_w5); have O4 := Lib.hid (ownV O3.out hb_w5); have B4 := bdT B3 B3.size hb_w5; have R4 := Lib.hid (hO2); clear P3 T3 G3 U3 V3 O3; clear hb_w5)
        | (refine wpList_store_row rfl 24 (.tmp 6) (.tmp 86) rfl ((wo.heap.size + 1)) (t.cs A2 m c2) rfl rfl 24 _ V4.out (S.i24 _ _ _ _) (S.sz S.zero _ none _ 0 0 _ _) (S.one _ _ _ _) ?_))
      clear z23 z24
      have P5 := Lib.hid ((setRow_other _ (wo.heap.size + 1) _ (t.cs A2 m c2) (by have := HZ.out; omega)).trans P4.out)
      have T5 := Lib.hid ((setRow_other _ (wo.heap.size + 1) _ (t.cs A2 m c2) (by have := HZ.out; omega)).trans T4.out)
      have G5 := Lib.hid ((setRow_other _ (wo.heap.size + 1) _ (t.cs A2 m c2) (by have := HZ.out; omega)).trans G4.out)
      have U5 := Lib.hid ((setRow_other _ (wo.heap.size + 1) _ (t.cs A2 m c2) (by omega)).trans U4.out)
      have V5 := Lib.hid (setRow_heap _ _ _ (t.cs A2 m c2) _ _ V4.out)
      have O5 := Lib.hid (ownVR (k := (wo.heap.size + 1)) O4.out (by have := HW2.out; omega) (t.cs A2 m c2))
      have R5 := Lib.hid (ownVR (k := (wo.heap.size + 1)) R4.out (by have := HW4.out; omega) (t.cs A2 m c2))
      have B5 := below_setRow B4 (g := (wo.heap.size + 1)) (by have := HZ.out; omega) (t.cs A2 m c2)
      clear P4 T4 G4 U4 V4 O4 R4
      generalize w5.setRow ((wo.heap.size + 1)) (t.cs A2 m c2) = w6 at *
      obtain ⟨ba, oa, hda, hka⟩ := ownDat O5.out
      obtain ⟨bb, ob, hdb, _⟩ := ownDat R5.out
      have LK := Lib.hid (alike_yes t A1 m c1 A2 c2 ba oa bb ob ys HM.out w6 hda hdb)
      have VL := Lib.hid fun (W : World) (h : DataAt W A1 m ba oa ys) => valid_any t A1 m c1 ba oa ys (by have := HM.out; omega) hka W h
      have DA := Lib.hid hda
      clear hda hdb hka
      have ev : (er != er) = false := by simp
      by_cases h0 : er = 0
      · have HV := HEV.out h0
        rw [HV] at VL
        have e1 : (er == 0) = true := by simp [h0]
        clear h0 HV
        go_upto_region 21 with (first
          | (refine gdOn (by rfl) ?_; refine wpList_load_row rfl 24 (.tmp 5) rfl (wo.heap.size) rfl 24 _ (0, 0) _ U5.out Try.underlying24 rfl (S.i24 _ _ _ _) ?_)
          | (refine gdOn (by rfl) ?_; refine wpList_load_row rfl 24 (.tmp 6) rfl ((wo.heap.size + 1)) rfl 24 _ (0, 0) _ V5.out Try.underlying24 rfl (S.i24 _ _ _ _) ?_)
          | (go_at_call 33; (with_reducible refine Calls.mono (LK.out) ?_); rintro e w7 ⟨rfl, hb_w7⟩; have DB := Lib.hid (DA.out.later hb_w7); have P6 := Lib.hid (bkBelow P5.out hb_w7); have T6 := Lib.hid (bkBelow T5.out hb_w7); have G6 := Lib.hid (bkBelow G5.out hb_w7); have U6 := Lib.hid (bkBelow U5.out hb_w7); have V6 := Lib.hid (bkBelow V5.out hb_w7); have O6 := Lib.hid (ownV O5.out hb_w7); have R6 := Lib.hid (ownV R5.out hb_w7); have B6 := bdT B5 B5.size hb_w7; clear P5 T5 G5 U5 V5 O5 R5; clear hb_w7)
          | (refine gdOn (by rfl) ?_; refine wpList_load_row rfl 24 (.tmp 5) rfl (wo.heap.size) rfl 24 _ (0, 0) _ U6.out Try.underlying24 rfl (S.i24 _ _ _ _) ?_)
          | (go_at_call 15; (with_reducible refine Calls.mono (VL.out _ DB.out) ?_); rintro e w8 ⟨rfl, hb_w8⟩; have P7 := Lib.hid (bkBelow P6.out hb_w8); have T7 := Lib.hid (bkBelow T6.out hb_w8); have G7 := Lib.hid (bkBelow G6.out hb_w8); have U7 := Lib.hid (bkBelow U6.out hb_w8); have V7 := Lib.hid (bkBelow V6.out hb_w8); have O7 := Lib.hid (ownV O6.out hb_w8); have R7 := Lib.hid (ownV R6.out hb_w8); have B7 := bdT B6 B6.size hb_w8; clear P6 T6 G6 U6 V6 O6 R6; clear hb_w8))
        clear ev e1
        have p1 := (bkCell U7.out 1).trans (show _ = some (Value.slice A1 m c1) from rfl)
        go_upto_region 22 with (fail)
        clear p1
        have HO := Lib.hid (ownLt O7.out)
        go_loopw [109] (fun v wq => ∃ (k : Nat) (zs : Nat → Int), k ≤ m ∧ v = iv k ∧ wq.heap[w.heap.size]? = some (.cells (q.cs s A n c0) 28 (0, 0)) ∧ wq.heap[w1.heap.size]? = some (.cells (s.cs (some ⟨g, 0, none⟩) n (n + 1)) 24 (0, 0)) ∧ wq.heap[g]? = some (.cells (rw_ (cpF xs n) (n + 1)).toArray 3 (0, 0)) ∧ wq.heap[wo.heap.size]? = some (.cells (t.cs A1 m c1) 24 (0, 0)) ∧ wq.ownsRow w2.heap.size 3 1 (.slice A1 m c1) m (rw_ zs m) ∧ Below w.heap.size w wq) (fun v _ => m - (intOf v).toNat)
        case atStart => exact ⟨0, ys, by omega, rfl, P7.out, T7.out, G7.out, U7.out, O7.out, B7⟩
        case round =>
          clear P7 T7 G7 U7 V7 O7 R7 B7
          obtain ⟨k, zs, hk, rfl, hP, hT, hG, hU, hO, hB⟩ := hrel
          have NP := Lib.hid hP
          have NT := Lib.hid hT
          have NG := Lib.hid hG
          have NU := Lib.hid hU
          have NO := Lib.hid hO
          have r3 : (0 : Int) ≤ (k : Int) := by omega
          have r5 : (m : Int) ≤ 20000000000000 := by have := HM.out; omega
          clear hP hT hG hU hO
          by_cases hkm : k < m
          · have r4 : (k : Int) < (m : Int) := by omega
            obtain ⟨A3, c3, gx, e, hd, hform⟩ := ownDataV NO.out
            obtain ⟨rfl, rfl⟩ : A1 = A3 ∧ c1 = c3 := by simp only [Value.slice.injEq] at e; exact ⟨e.1, e.2.2⟩
            obtain ⟨rfl, hgx⟩ : A1 = some ⟨gx, 0, none⟩ ∧ w2.heap.size ≤ gx := by
              rcases hform with h | h
              · omega
              · exact h
            have HGX := Lib.hid hgx
            have s4 := (NO.out.cellAt k (by omega)).trans (rw_at _ m k hkm)
            have f4 := NO.out.frozenAt k
            have p1 := (bkCell NU.out 1).trans (show _ = some (Value.slice (some ⟨gx, 0, none⟩) m c1) from rfl)
            clear hd hform hgx e
            go_upto_region 25 with (fail)
            have P9 := Lib.hid (bkFar NP.out (p := ⟨gx, k, none⟩) (by have := HGX.out; have := HZ.out; have := HW2.out; simp; omega) (iv 0))
            have T9 := Lib.hid (bkFar NT.out (p := ⟨gx, k, none⟩) (by have := HGX.out; have := HZ.out; have := HW2.out; simp; omega) (iv 0))
            have G9 := Lib.hid (bkFar NG.out (p := ⟨gx, k, none⟩) (by have := HGX.out; have := HZ.out; have := HW2.out; simp; omega) (iv 0))
            have U9 := Lib.hid (bkFar NU.out (p := ⟨gx, k, none⟩) (by have := HGX.out; have := HZ.out; have := HW2.out; simp; omega) (iv 0))
            have O9 := Lib.hid (ownN (NO.out.stored k (iv 0)).1 (rw_set _ m k _))
            have B9 := hB.setCell (p := ⟨gx, k, none⟩) (by have := HGX.out; have := HZ.out; have := HW2.out; simp; omega) (iv 0)
            clear s4 f4 p1
            go_wp2
            exact ⟨⟨k + 1, _, by omega, by go_num, P9.out, T9.out, G9.out, U9.out, O9.out, B9⟩, by simp [intOf]; omega⟩
          · obtain rfl : k = m := by omega
            have UC := Lib.hid (untouched_yes s A n c0 b o g xs HNB.out wr (HD.out.later hB) NG.out)
            go_wp2_with (first
              | (refine wpList_load_row rfl 24 (.tmp 3) rfl (w1.heap.size) rfl 24 _ (0, 0) _ NT.out Try.underlying24 rfl (S.i24 _ _ _ _) ?_)
              | (refine wpLoadAsk rfl _ rfl (w.heap.size) rfl q s A n c0 NP.out ?_)
              | (go_at_call 28; (with_reducible refine UC.out.mono ?_); rintro e wz ⟨rfl, hbz⟩; have P9 := Lib.hid (bkBelow NP.out hbz); have T9 := Lib.hid (bkBelow NT.out hbz); have G9 := Lib.hid (bkBelow NG.out hbz); have B9 := bdT hB hB.size hbz))
            exact ⟨⟨3, by omega, by go_num, P9.out, T9.out, G9.out, B9⟩, by simp [intOf]⟩
      · have e1 : (er == 0) = false := by simp [h0]
        clear h0
        go_upto_region 21 with (first
          | (refine gdOn (by rfl) ?_; refine wpList_load_row rfl 24 (.tmp 5) rfl (wo.heap.size) rfl 24 _ (0, 0) _ U5.out Try.underlying24 rfl (S.i24 _ _ _ _) ?_)
          | (refine gdOn (by rfl) ?_; refine wpList_load_row rfl 24 (.tmp 6) rfl ((wo.heap.size + 1)) rfl 24 _ (0, 0) _ V5.out Try.underlying24 rfl (S.i24 _ _ _ _) ?_)
          | (go_at_call 33; (with_reducible refine Calls.mono (LK.out) ?_); rintro e w7 ⟨rfl, hb_w7⟩; have DB := Lib.hid (DA.out.later hb_w7); have P6 := Lib.hid (bkBelow P5.out hb_w7); have T6 := Lib.hid (bkBelow T5.out hb_w7); have G6 := Lib.hid (bkBelow G5.out hb_w7); have U6 := Lib.hid (bkBelow U5.out hb_w7); have V6 := Lib.hid (bkBelow V5.out hb_w7); have O6 := Lib.hid (ownV O5.out hb_w7); have R6 := Lib.hid (ownV R5.out hb_w7); have B6 := bdT B5 B5.size hb_w7; clear P5 T5 G5 U5 V5 O5 R5; clear hb_w7))
        clear ev e1
        have p1 := (bkCell U6.out 1).trans (show _ = some (Value.slice A1 m c1) from rfl)
        go_upto_region 22 with (fail)
        clear p1
        have HO := Lib.hid (ownLt O6.out)
        go_loopw [109] (fun v wq => ∃ (k : Nat) (zs : Nat → Int), k ≤ m ∧ v = iv k ∧ wq.heap[w.heap.size]? = some (.cells (q.cs s A n c0) 28 (0, 0)) ∧ wq.heap[w1.heap.size]? = some (.cells (s.cs (some ⟨g, 0, none⟩) n (n + 1)) 24 (0, 0)) ∧ wq.heap[g]? = some (.cells (rw_ (cpF xs n) (n + 1)).toArray 3 (0, 0)) ∧ wq.heap[wo.heap.size]? = some (.cells (t.cs A1 m c1) 24 (0, 0)) ∧ wq.ownsRow w2.heap.size 3 1 (.slice A1 m c1) m (rw_ zs m) ∧ Below w.heap.size w wq) (fun v _ => m - (intOf v).toNat)
        case atStart => exact ⟨0, ys, by omega, rfl, P6.out, T6.out, G6.out, U6.out, O6.out, B6⟩
        case round =>
          clear P6 T6 G6 U6 V6 O6 R6 B6
          obtain ⟨k, zs, hk, rfl, hP, hT, hG, hU, hO, hB⟩ := hrel
          have NP := Lib.hid hP
          have NT := Lib.hid hT
          have NG := Lib.hid hG
          have NU := Lib.hid hU
          have NO := Lib.hid hO
          have r3 : (0 : Int) ≤ (k : Int) := by omega
          have r5 : (m : Int) ≤ 20000000000000 := by have := HM.out; omega
          clear hP hT hG hU hO
          by_cases hkm : k < m
          · have r4 : (k : Int) < (m : Int) := by omega
            obtain ⟨A3, c3, gx, e, hd, hform⟩ := ownDataV NO.out
            obtain ⟨rfl, rfl⟩ : A1 = A3 ∧ c1 = c3 := by simp only [Value.slice.injEq] at e; exact ⟨e.1, e.2.2⟩
            obtain ⟨rfl, hgx⟩ : A1 = some ⟨gx, 0, none⟩ ∧ w2.heap.size ≤ gx := by
              rcases hform with h | h
              · omega
              · exact h
            have HGX := Lib.hid hgx
            have s4 := (NO.out.cellAt k (by omega)).trans (rw_at _ m k hkm)
            have f4 := NO.out.frozenAt k
            have p1 := (bkCell NU.out 1).trans (show _ = some (Value.slice (some ⟨gx, 0, none⟩) m c1) from rfl)
            clear hd hform hgx e
            go_upto_region 25 with (fail)
            have P9 := Lib.hid (bkFar NP.out (p := ⟨gx, k, none⟩) (by have := HGX.out; have := HZ.out; have := HW2.out; simp; omega) (iv 0))
            have T9 := Lib.hid (bkFar NT.out (p := ⟨gx, k, none⟩) (by have := HGX.out; have := HZ.out; have := HW2.out; simp; omega) (iv 0))
            have G9 := Lib.hid (bkFar NG.out (p := ⟨gx, k, none⟩) (by have := HGX.out; have := HZ.out; have := HW2.out; simp; omega) (iv 0))
            have U9 := Lib.hid (bkFar NU.out (p := ⟨gx, k, none⟩) (by have := HGX.out; have := HZ.out; have := HW2.out; simp; omega) (iv 0))
            have O9 := Lib.hid (ownN (NO.out.stored k (iv 0)).1 (rw_set _ m k _))
            have B9 := hB.setCell (p := ⟨gx, k, none⟩) (by have := HGX.out; have := HZ.out; have := HW2.out; simp; omega) (iv 0)
            clear s4 f4 p1
            go_wp2
            exact ⟨⟨k + 1, _, by omega, by go_num, P9.out, T9.out, G9.out, U9.out, O9.out, B9⟩, by simp [intOf]; omega⟩
          · obtain rfl : k = m := by omega
            have UC := Lib.hid (untouched_yes s A n c0 b o g xs HNB.out wr (HD.out.later hB) NG.out)
            go_wp2_with (first
              | (refine wpList_load_row rfl 24 (.tmp 3) rfl (w1.heap.size) rfl 24 _ (0, 0) _ NT.out Try.underlying24 rfl (S.i24 _ _ _ _) ?_)
              | (refine wpLoadAsk rfl _ rfl (w.heap.size) rfl q s A n c0 NP.out ?_)
              | (go_at_call 28; (with_reducible refine UC.out.mono ?_); rintro e wz ⟨rfl, hbz⟩; have P9 := Lib.hid (bkBelow NP.out hbz); have T9 := Lib.hid (bkBelow NT.out hbz); have G9 := Lib.hid (bkBelow NG.out hbz); have B9 := bdT hB hB.size hbz))
            exact ⟨⟨3, by omega, by go_num, P9.out, T9.out, G9.out, B9⟩, by simp [intOf]⟩
    · skip
      have K0 : Below wo.heap.size wo ((wo.alloc (Obj.cells #[Value.string ⟨#[]⟩, Value.slice none 0 0, iv 0, iv 0, iv 0, iv 0, iv 0, iv 0, iv 0, iv 0, iv 0, iv 0, iv 0] 24)).alloc (Obj.cells #[Value.string ⟨#[]⟩, Value.slice none 0 0, iv 0, iv 0, iv 0, iv 0, iv 0, iv 0, iv 0, iv 0, iv 0, iv 0, iv 0] 24)) := ((Below.refl _ _).alloc (Nat.le_refl _) _).alloc (by simp) _
      have P1 := Lib.hid (bkBelow hP K0)
      have T1 := Lib.hid (bkBelow hT K0)
      have G1 := Lib.hid (bkBelow hG K0)
      have U1 := Lib.hid (heap_alloc2_old wo (Obj.cells #[Value.string ⟨#[]⟩, Value.slice none 0 0, iv 0, iv 0, iv 0, iv 0, iv 0, iv 0, iv 0, iv 0, iv 0, iv 0, iv 0] 24) (Obj.cells #[Value.string ⟨#[]⟩, Value.slice none 0 0, iv 0, iv 0, iv 0, iv 0, iv 0, iv 0, iv 0, iv 0, iv 0, iv 0, iv 0] 24))
      have V1 := Lib.hid (heap_alloc2_new wo (Obj.cells #[Value.string ⟨#[]⟩, Value.slice none 0 0, iv 0, iv 0, iv 0, iv 0, iv 0, iv 0, iv 0, iv 0, iv 0, iv 0, iv 0] 24) (Obj.cells #[Value.string ⟨#[]⟩, Value.slice none 0 0, iv 0, iv 0, iv 0, iv 0, iv 0, iv 0, iv 0, iv 0, iv 0, iv 0, iv 0] 24))
      have B1 := bdT hB hB.size K0
      clear hP hT hG hB K0
      go_upto_region 6 with (fail)
      have HW2 := Lib.hid (show wo.heap.size + 1 < ((wo.alloc (Obj.cells #[Value.string ⟨#[]⟩, Value.slice none 0 0, iv 0, iv 0, iv 0, iv 0, iv 0, iv 0, iv 0, iv 0, iv 0, iv 0, iv 0] 24)).alloc (Obj.cells #[Value.string ⟨#[]⟩, Value.slice none 0 0, iv 0, iv 0, iv 0, iv 0, iv 0, iv 0, iv 0, iv 0, iv 0, iv 0, iv 0] 24)).heap.size from bkLt V1.out)
      generalize (wo.alloc (Obj.cells #[Value.string ⟨#[]⟩, Value.slice none 0 0, iv 0, iv 0, iv 0, iv 0, iv 0, iv 0, iv 0, iv 0, iv 0, iv 0, iv 0] 24)).alloc (Obj.cells #[Value.string ⟨#[]⟩, Value.slice none 0 0, iv 0, iv 0, iv 0, iv 0, iv 0, iv 0, iv 0, iv 0, iv 0, iv 0, iv 0] 24) = w2 at *
      obtain ⟨t, m, ys, er, hm, hev, ga0, gb0⟩ := both_conv s n xs q.bi HNN.out
      have GA := Lib.hid ga0
      have GB := Lib.hid gb0
      have HM := Lib.hid hm
      have HEV := Lib.hid hev
      clear ga0 gb0 hm hev
      have z25 := (bkCell P1.out 25).trans (show _ = some (iv q.bi) from rfl)
      have CA := Lib.hid (gives_calls (GA.out (some ⟨g, 0, none⟩) (n + 1) g 0 (Nat.le_succ n) w2 (cpData G1.out)))
      go_upto_region 9 with (first
        | (refine wpList_load_row rfl 24 (.tmp 3) rfl (w1.heap.size) rfl 24 _ (0, 0) _ T1.out Try.underlying24 rfl (S.i24 _ _ _ _) ?_)
        | (go_at_call 34; (with_reducible refine Calls.mono (CA.out) ?_); rintro e w3 ⟨A1, c1, rfl, hO1, hb_w3⟩; have P2 := Lib.hid (bkBelow P1.out hb_w3); have T2 := Lib.hid (bkBelow T1.out hb_w3); have G2 := Lib.hid (bkBelow G1.out hb_w3); have U2 := Lib.hid (bkBelow U1.out hb_w3); have V2 := Lib.hid (bkBelow V1.out hb_w3); have B2 := bdT B1 B1.size hb_w3; have O2 := Lib.hid (hO1); clear P1 T1 G1 U1 V1; clear hb_w3)
        | (refine wpList_store_row rfl 24 (.tmp 5) (.tmp 23) rfl (wo.heap.size) (t.cs A1 m c1) rfl rfl 24 _ U2.out (S.i24 _ _ _ _) (S.sz S.zero _ none _ 0 0 _ _) (S.one _ _ _ _) ?_))
      clear z25
      have P3 := Lib.hid ((setRow_other _ wo.heap.size _ (t.cs A1 m c1) (by have := HZ.out; omega)).trans P2.out)
      have T3 := Lib.hid ((setRow_other _ wo.heap.size _ (t.cs A1 m c1) (by have := HZ.out; omega)).trans T2.out)
      have G3 := Lib.hid ((setRow_other _ wo.heap.size _ (t.cs A1 m c1) (by have := HZ.out; omega)).trans G2.out)
      have U3 := Lib.hid (setRow_heap _ _ _ (t.cs A1 m c1) _ _ U2.out)
      have V3 := Lib.hid ((setRow_other _ wo.heap.size _ (t.cs A1 m c1) (by omega)).trans V2.out)
      have O3 := Lib.hid (ownVR (k := wo.heap.size) O2.out (by have := HW2.out; omega) (t.cs A1 m c1))
      have B3 := below_setRow B2 (g := wo.heap.size) (by have := HZ.out; omega) (t.cs A1 m c1)
      clear P2 T2 G2 U2 V2 O2
      generalize w3.setRow (wo.heap.size) (t.cs A1 m c1) = w4 at *
      have z25 := (bkCell P3.out 25).trans (show _ = some (iv q.bi) from rfl)
      have HW4 := Lib.hid (bkLt V3.out)
      have CB := Lib.hid (gives_calls (GB.out A c0 b o HC0.out HNO.out w4 (HD.out.later B3)))
      go_upto_region 19 with (first
        | (refine wpLoadAsk rfl _ rfl (w.heap.size) rfl q s A n c0 P3.out ?_)
        | (go_at_call 39; (with_reducible refine Calls.mono (CB.out) ?_); rintro e w5 ⟨A2, c2, rfl, hO2, hb_w5⟩; have P4 := Lib.hid (bkBelow P3.out hb_w5); have T4 := Lib.hid (bkBelow T3.out hb_w5); have G4 := Lib.hid (bkBelow G3.out hb_w5); have U4 := Lib.hid (bkBelow U3.out hb_w5); have V4 := Lib.hid (bkBelow V3.out hb_w5); have O4 := Lib.hid (ownV O3.out hb_w5); have B4 := bdT B3 B3.size hb_w5; have R4 := Lib.hid (hO2); clear P3 T3 G3 U3 V3 O3; clear hb_w5)
        | (refine wpList_store_row rfl 24 (.tmp 6) (.tmp 31) rfl ((wo.heap.size + 1)) (t.cs A2 m c2) rfl rfl 24 _ V4.out (S.i24 _ _ _ _) (S.sz S.zero _ none _ 0 0 _ _) (S.one _ _ _ _) ?_))
      clear z25
      have P5 := Lib.hid ((setRow_other _ (wo.heap.size + 1) _ (t.cs A2 m c2) (by have := HZ.out; omega)).trans P4.out)
      have T5 := Lib.hid ((setRow_other _ (wo.heap.size + 1) _ (t.cs A2 m c2) (by have := HZ.out; omega)).trans T4.out)
      have G5 := Lib.hid ((setRow_other _ (wo.heap.size + 1) _ (t.cs A2 m c2) (by have := HZ.out; omega)).trans G4.out)
      have U5 := Lib.hid ((setRow_other _ (wo.heap.size + 1) _ (t.cs A2 m c2) (by omega)).trans U4.out)
      have V5 := Lib.hid (setRow_heap _ _ _ (t.cs A2 m c2) _ _ V4.out)
      have O5 := Lib.hid (ownVR (k := (wo.heap.size + 1)) O4.out (by have := HW2.out; omega) (t.cs A2 m c2))
      have R5 := Lib.hid (ownVR (k := (wo.heap.size + 1)) R4.out (by have := HW4.out; omega) (t.cs A2 m c2))
      have B5 := below_setRow B4 (g := (wo.heap.size + 1)) (by have := HZ.out; omega) (t.cs A2 m c2)
      clear P4 T4 G4 U4 V4 O4 R4
      generalize w5.setRow ((wo.heap.size + 1)) (t.cs A2 m c2) = w6 at *
      obtain ⟨ba, oa, hda, hka⟩ := ownDat O5.out
      obtain ⟨bb, ob, hdb, _⟩ := ownDat R5.out
      have LK := Lib.hid (alike_yes t A1 m c1 A2 c2 ba oa bb ob ys HM.out w6 hda hdb)
      have VL := Lib.hid fun (W : World) (h : DataAt W A1 m ba oa ys) => valid_any t A1 m c1 ba oa ys (by have := HM.out; omega) hka W h
      have DA := Lib.hid hda
      clear hda hdb hka
      have ev : (er != er) = false := by simp
      by_cases h0 : er = 0
      · have HV := HEV.out h0
        rw [HV] at VL
        have e1 : (er == 0) = true := by simp [h0]
        clear h0 HV
        go_upto_region 21 with (first
          | (refine gdOn (by rfl) ?_; refine wpList_load_row rfl 24 (.tmp 5) rfl (wo.heap.size) rfl 24 _ (0, 0) _ U5.out Try.underlying24 rfl (S.i24 _ _ _ _) ?_)
          | (refine gdOn (by rfl) ?_; refine wpList_load_row rfl 24 (.tmp 6) rfl ((wo.heap.size + 1)) rfl 24 _ (0, 0) _ V5.out Try.underlying24 rfl (S.i24 _ _ _ _) ?_)
          | (go_at_call 33; (with_reducible refine Calls.mono (LK.out) ?_); rintro e w7 ⟨rfl, hb_w7⟩; have DB := Lib.hid (DA.out.later hb_w7); have P6 := Lib.hid (bkBelow P5.out hb_w7); have T6 := Lib.hid (bkBelow T5.out hb_w7); have G6 := Lib.hid (bkBelow G5.out hb_w7); have U6 := Lib.hid (bkBelow U5.out hb_w7); have V6 := Lib.hid (bkBelow V5.out hb_w7); have O6 := Lib.hid (ownV O5.out hb_w7); have R6 := Lib.hid (ownV R5.out hb_w7); have B6 := bdT B5 B5.size hb_w7; clear P5 T5 G5 U5 V5 O5 R5; clear hb_w7)
          | (refine gdOn (by rfl) ?_; refine wpList_load_row rfl 24 (.tmp 5) rfl (wo.heap.size) rfl 24 _ (0, 0) _ U6.out Try.underlying24 rfl (S.i24 _ _ _ _) ?_)
          | (go_at_call 15; (with_reducible refine Calls.mono (VL.out _ DB.out) ?_); rintro e w8 ⟨rfl, hb_w8⟩; have P7 := Lib.hid (bkBelow P6.out hb_w8); have T7 := Lib.hid (bkBelow T6.out hb_w8); have G7 := Lib.hid (bkBelow G6.out hb_w8); have U7 := Lib.hid (bkBelow U6.out hb_w8); have V7 := Lib.hid (bkBelow V6.out hb_w8); have O7 := Lib.hid (ownV O6.out hb_w8); have R7 := Lib.hid (ownV R6.out hb_w8); have B7 := bdT B6 B6.size hb_w8; clear P6 T6 G6 U6 V6 O6 R6; clear hb_w8))
        clear ev e1
        have p1 := (bkCell U7.out 1).trans (show _ = some (Value.slice A1 m c1) from rfl)
        go_upto_region 22 with (fail)
        clear p1
        have HO := Lib.hid (ownLt O7.out)
        go_loopw [109] (fun v wq => ∃ (k : Nat) (zs : Nat → Int), k ≤ m ∧ v = iv k ∧ wq.heap[w.heap.size]? = some (.cells (q.cs s A n c0) 28 (0, 0)) ∧ wq.heap[w1.heap.size]? = some (.cells (s.cs (some ⟨g, 0, none⟩) n (n + 1)) 24 (0, 0)) ∧ wq.heap[g]? = some (.cells (rw_ (cpF xs n) (n + 1)).toArray 3 (0, 0)) ∧ wq.heap[wo.heap.size]? = some (.cells (t.cs A1 m c1) 24 (0, 0)) ∧ wq.ownsRow w2.heap.size 3 1 (.slice A1 m c1) m (rw_ zs m) ∧ Below w.heap.size w wq) (fun v _ => m - (intOf v).toNat)
        case atStart => exact ⟨0, ys, by omega, rfl, P7.out, T7.out, G7.out, U7.out, O7.out, B7⟩
        case round =>
          clear P7 T7 G7 U7 V7 O7 R7 B7
          obtain ⟨k, zs, hk, rfl, hP, hT, hG, hU, hO, hB⟩ := hrel
          have NP := Lib.hid hP
          have NT := Lib.hid hT
          have NG := Lib.hid hG
          have NU := Lib.hid hU
          have NO := Lib.hid hO
          have r3 : (0 : Int) ≤ (k : Int) := by omega
          have r5 : (m : Int) ≤ 20000000000000 := by have := HM.out; omega
          clear hP hT hG hU hO
          by_cases hkm : k < m
          · have r4 : (k : Int) < (m : Int) := by omega
            obtain ⟨A3, c3, gx, e, hd, hform⟩ := ownDataV NO.out
            obtain ⟨rfl, rfl⟩ : A1 = A3 ∧ c1 = c3 := by simp only [Value.slice.injEq] at e; exact ⟨e.1, e.2.2⟩
            obtain ⟨rfl, hgx⟩ : A1 = some ⟨gx, 0, none⟩ ∧ w2.heap.size ≤ gx := by
              rcases hform with h | h
              · omega
              · exact h
            have HGX := Lib.hid hgx
            have s4 := (NO.out.cellAt k (by omega)).trans (rw_at _ m k hkm)
            have f4 := NO.out.frozenAt k
            have p1 := (bkCell NU.out 1).trans (show _ = some (Value.slice (some ⟨gx, 0, none⟩) m c1) from rfl)
            clear hd hform hgx e
            go_upto_region 25 with (fail)
            have P9 := Lib.hid (bkFar NP.out (p := ⟨gx, k, none⟩) (by have := HGX.out; have := HZ.out; have := HW2.out; simp; omega) (iv 0))
            have T9 := Lib.hid (bkFar NT.out (p := ⟨gx, k, none⟩) (by have := HGX.out; have := HZ.out; have := HW2.out; simp; omega) (iv 0))
            have G9 := Lib.hid (bkFar NG.out (p := ⟨gx, k, none⟩) (by have := HGX.out; have := HZ.out; have := HW2.out; simp; omega) (iv 0))
            have U9 := Lib.hid (bkFar NU.out (p := ⟨gx, k, none⟩) (by have := HGX.out; have := HZ.out; have := HW2.out; simp; omega) (iv 0))
            have O9 := Lib.hid (ownN (NO.out.stored k (iv 0)).1 (rw_set _ m k _))
            have B9 := hB.setCell (p := ⟨gx, k, none⟩) (by have := HGX.out; have := HZ.out; have := HW2.out; simp; omega) (iv 0)
            clear s4 f4 p1
            go_wp2
            exact ⟨⟨k + 1, _, by omega, by go_num, P9.out, T9.out, G9.out, U9.out, O9.out, B9⟩, by simp [intOf]; omega⟩
          · obtain rfl : k = m := by omega
            have UC := Lib.hid (untouched_yes s A n c0 b o g xs HNB.out wr (HD.out.later hB) NG.out)
            go_wp2_with (first
              | (refine wpList_load_row rfl 24 (.tmp 3) rfl (w1.heap.size) rfl 24 _ (0, 0) _ NT.out Try.underlying24 rfl (S.i24 _ _ _ _) ?_)
              | (refine wpLoadAsk rfl _ rfl (w.heap.size) rfl q s A n c0 NP.out ?_)
              | (go_at_call 28; (with_reducible refine UC.out.mono ?_); rintro e wz ⟨rfl, hbz⟩; have P9 := Lib.hid (bkBelow NP.out hbz); have T9 := Lib.hid (bkBelow NT.out hbz); have G9 := Lib.hid (bkBelow NG.out hbz); have B9 := bdT hB hB.size hbz))
            exact ⟨⟨4, by omega, by go_num, P9.out, T9.out, G9.out, B9⟩, by simp [intOf]⟩
      · have e1 : (er == 0) = false := by simp [h0]
        clear h0
        go_upto_region 21 with (first
          | (refine gdOn (by rfl) ?_; refine wpList_load_row rfl 24 (.tmp 5) rfl (wo.heap.size) rfl 24 _ (0, 0) _ U5.out Try.underlying24 rfl (S.i24 _ _ _ _) ?_)
          | (refine gdOn (by rfl) ?_; refine wpList_load_row rfl 24 (.tmp 6) rfl ((wo.heap.size + 1)) rfl 24 _ (0, 0) _ V5.out Try.underlying24 rfl (S.i24 _ _ _ _) ?_)
          | (go_at_call 33; (with_reducible refine Calls.mono (LK.out) ?_); rintro e w7 ⟨rfl, hb_w7⟩; have DB := Lib.hid (DA.out.later hb_w7); have P6 := Lib.hid (bkBelow P5.out hb_w7); have T6 := Lib.hid (bkBelow T5.out hb_w7); have G6 := Lib.hid (bkBelow G5.out hb_w7); have U6 := Lib.hid (bkBelow U5.out hb_w7); have V6 := Lib.hid (bkBelow V5.out hb_w7); have O6 := Lib.hid (ownV O5.out hb_w7); have R6 := Lib.hid (ownV R5.out hb_w7); have B6 := bdT B5 B5.size hb_w7; clear P5 T5 G5 U5 V5 O5 R5; clear hb_w7))
        clear ev e1
        have p1 := (bkCell U6.out 1).trans (show _ = some (Value.slice A1 m c1) from rfl)
        go_upto_region 22 with (fail)
        clear p1
        have HO := Lib.hid (ownLt O6.out)
        go_loopw [109] (fun v wq => ∃ (k : Nat) (zs : Nat → Int), k ≤ m ∧ v = iv k ∧ wq.heap[w.heap.size]? = some (.cells (q.cs s A n c0) 28 (0, 0)) ∧ wq.heap[w1.heap.size]? = some (.cells (s.cs (some ⟨g, 0, none⟩) n (n + 1)) 24 (0, 0)) ∧ wq.heap[g]? = some (.cells (rw_ (cpF xs n) (n + 1)).toArray 3 (0, 0)) ∧ wq.heap[wo.heap.size]? = some (.cells (t.cs A1 m c1) 24 (0, 0)) ∧ wq.ownsRow w2.heap.size 3 1 (.slice A1 m c1) m (rw_ zs m) ∧ Below w.heap.size w wq) (fun v _ => m - (intOf v).toNat)
        case atStart => exact ⟨0, ys, by omega, rfl, P6.out, T6.out, G6.out, U6.out, O6.out, B6⟩
        case round =>
          clear P6 T6 G6 U6 V6 O6 R6 B6
          obtain ⟨k, zs, hk, rfl, hP, hT, hG, hU, hO, hB⟩ := hrel
          have NP := Lib.hid hP
          have NT := Lib.hid hT
          have NG := Lib.hid hG
          have NU := Lib.hid hU
          have NO := Lib.hid hO
          have r3 : (0 : Int) ≤ (k : Int) := by omega
          have r5 : (m : Int) ≤ 20000000000000 := by have := HM.out; omega
          clear hP hT hG hU hO
          by_cases hkm : k < m
          · have r4 : (k : Int) < (m : Int) := by omega
            obtain ⟨A3, c3, gx, e, hd, hform⟩ := ownDataV NO.out
            obtain ⟨rfl, rfl⟩ : A1 = A3 ∧ c1 = c3 := by simp only [Value.slice.injEq] at e; exact ⟨e.1, e.2.2⟩
            obtain ⟨rfl, hgx⟩ : A1 = some ⟨gx, 0, none⟩ ∧ w2.heap.size ≤ gx := by
              rcases hform with h | h
              · omega
              · exact h
            have HGX := Lib.hid hgx
            have s4 := (NO.out.cellAt k (by omega)).trans (rw_at _ m k hkm)
            have f4 := NO.out.frozenAt k
            have p1 := (bkCell NU.out 1).trans (show _ = some (Value.slice (some ⟨gx, 0, none⟩) m c1) from rfl)
            clear hd hform hgx e
            go_upto_region 25 with (fail)
            have P9 := Lib.hid (bkFar NP.out (p := ⟨gx, k, none⟩) (by have := HGX.out; have := HZ.out; have := HW2.out; simp; omega) (iv 0))
            have T9 := Lib.hid (bkFar NT.out (p := ⟨gx, k, none⟩) (by have := HGX.out; have := HZ.out; have := HW2.out; simp; omega) (iv 0))
            have G9 := Lib.hid (bkFar NG.out (p := ⟨gx, k, none⟩) (by have := HGX.out; have := HZ.out; have := HW2.out; simp; omega) (iv 0))
            have U9 := Lib.hid (bkFar NU.out (p := ⟨gx, k, none⟩) (by have := HGX.out; have := HZ.out; have := HW2.out; simp; omega) (iv 0))
            have O9 := Lib.hid (ownN (NO.out.stored k (iv 0)).1 (rw_set _ m k _))
            have B9 := hB.setCell (p := ⟨gx, k, none⟩) (by have := HGX.out; have := HZ.out; have := HW2.out; simp; omega) (iv 0)
            clear s4 f4 p1
            go_wp2
            exact ⟨⟨k + 1, _, by omega, by go_num, P9.out, T9.out, G9.out, U9.out, O9.out, B9⟩, by simp [intOf]; omega⟩
          · obtain rfl : k = m := by omega
            have UC := Lib.hid (untouched_yes s A n c0 b o g xs HNB.out wr (HD.out.later hB) NG.out)
            go_wp2_with (first
              | (refine wpList_load_row rfl 24 (.tmp 3) rfl (w1.heap.size) rfl 24 _ (0, 0) _ NT.out Try.underlying24 rfl (S.i24 _ _ _ _) ?_)
              | (refine wpLoadAsk rfl _ rfl (w.heap.size) rfl q s A n c0 NP.out ?_)
              | (go_at_call 28; (with_reducible refine UC.out.mono ?_); rintro e wz ⟨rfl, hbz⟩; have P9 := Lib.hid (bkBelow NP.out hbz); have T9 := Lib.hid (bkBelow NT.out hbz); have G9 := Lib.hid (bkBelow NG.out hbz); have B9 := bdT hB hB.size hbz))
            exact ⟨⟨4, by omega, by go_num, P9.out, T9.out, G9.out, B9⟩, by simp [intOf]⟩
theorem works_law (q : Q) (s : S) (A : Option Addr) (n c0 : Nat) (zs : List Int) (w : World) (h : RowOf w A n c0 zs) (hr : c0 * 8 ≤ reachBytes) : Calls Try.prog 9 #[.agg (q.cs s A n c0)] w fun e w' => e = .returned (.bool true) ∧ Below w.heap.size w w' := by
  have hN : A = none → c0 = 0 := by
    rcases h with ⟨_, _, rfl, _⟩ | ⟨x, rfl, _⟩
    · exact fun _ => rfl
    · intro h
      simp at h
  obtain ⟨k1, hn, b, o, d1⟩ := dataOf h
  unfold reachBytes at hr
  exact works_any q s A n c0 b o _ (by omega) k1 hN w d1
end Go.Proofs.Ytnmoiolddfboiaa.SX

/- The value at a cursor, the reference: the same value. -/
import Derived.Test.YtnmoiolddfboiaaSyK
namespace Go.Proofs.Ytnmoiolddfboiaa.SX
open Go.RowKit Go.Proofs.YtnmoiolddfboiaaW.PrintLast Go.Proofs.Ytnmoiolddfboiaa.TX Go.Proofs.Ytnmoiolddfboiaa.Cu
set_option linter.unusedVariables false
set_option linter.unusedSimpArgs false
set_option maxHeartbeats 16000000 in
set_option maxRecDepth 100000 in
theorem rsound_any (K : Nat) (hK : K ≤ 4) (s : S) (A : Option Addr) (n c0 b o : Nat) (xs : Nat → Int) (c : Cur) (held : Bool) (hv : vS s n xs = true) (hk : okB n c = true) (hd : c.done = false) (hn : n ≤ 9223372036854775807) (hc0 : n ≤ c0) (w : World) (hA : DataAt w A n b o xs) : Calls Try.prog 86 #[.agg (s.cs A n c0), .agg (Cur.cs c), iv K, .bool held] w fun e w' => e = .returned (iv (sndM s n xs c held K)) ∧ Below w.heap.size w w' := by
  have B0 : Below w.heap.size w ((w.alloc (Obj.cells (s.cs A n c0) 24)).alloc (Obj.cells (Cur.cs c) 26)) := ((Below.refl _ _).alloc (Nat.le_refl _) _).alloc (by simp) _
  have P0 := Lib.hid (heap_alloc2_old w (Obj.cells (s.cs A n c0) 24) (Obj.cells (Cur.cs c) 26))
  have C0 := Lib.hid (heap_alloc2_new w (Obj.cells (s.cs A n c0) 24) (Obj.cells (Cur.cs c) 26))
  have hq : 0 ≤ c.frac ∧ c.frac ≤ 65535 := by
    have := okB_iff.1 hk
    unfold CurOk at this
    rw [if_neg (by rw [hd]; decide)] at this
    omega
  have e1 : c.frac.tdiv 256 = c.frac / 256 := Int.tdiv_eq_ediv_of_nonneg hq.1
  obtain ⟨f, hf⟩ : ∃ f, c.frac / 256 = f := ⟨_, rfl⟩
  have d0 : 0 ≤ f := by omega
  have d1 : f ≤ 255 := by omega
  have f1 : wrap64 (c.frac.tdiv 256) = f := by rw [e1, hf]; exact wrap_in (by omega) (by omega)
  have ht := vS_tame hv
  obtain ⟨F, hF⟩ : ∃ F, tapsF s n xs c held K = F := ⟨_, rfl⟩
  rw [show sndM s n xs c held K = v8 K f F from by unfold sndM; rw [hf, hF]]
  have HFk : ∀ k : Nat, F k = if wt K f k = 0 then 0 else tapM s n xs c ((k : Int) - 3) held := fun k => by rw [← hF, ← hf]; rfl
  have HFK := Lib.hid HFk
  have HBD := Lib.hid (show ∀ i, -32768 ≤ F i ∧ F i ≤ 32767 from fun i => hF ▸ taps_bd ht c held K i)
  have WC := Lib.hid fun (k : Nat) (kk : Int) (hkk : kk = (k : Int) - 3) (h8 : k < 8) (W : World) => (show Calls Try.prog 118 #[iv K, iv kk, iv f] W fun e w' => e = .returned (iv (wt K f k)) ∧ W = w' from hkk ▸ weight_any K hK k h8 f d0 d1 W)
  have HD := Lib.hid hA
  have TC := Lib.hid fun (k : Nat) (kk : Int) (hkk : kk = (k : Int) - 3) (h8 : k < 8) (h0 : ¬ wt K f k = 0) (W : World) (h : DataAt W A n b o xs) => (show Calls Try.prog 27 #[.agg (s.cs A n c0), .agg (Cur.cs c), iv kk, .bool held] W fun e w' => e = .returned (iv (F k)) ∧ Below W.heap.size W w' from by
    rw [HFk k, if_neg h0, ← hkk]
    have := rtap_any s A n c0 b o xs c kk held hn hc0 W h
    rwa [show tapA s n xs c kk held = tapM s n xs c kk held from if_pos ⟨hv, hk, by omega, by omega⟩] at this)
  have MC := Lib.hid fun (A' : Option Addr) (c' b' o' : Nat) (W : World) (h : DataAt W A' 8 b' o' F) => mean_any K hK A' c' b' o' F HBD.out f d0 d1 W h
  obtain ⟨i0, hi, hz0, hz1, hz2⟩ := info_parts info3
  have y1 : (Cur.cs c)[1]? = some (iv c.frac) := rfl
  clear hq e1 hf d0 d1 ht hF HFk hv hk hd hA
  go_enter Try.func86, Try.ntmps86
  go_upto_region 3 with (fail)
  have HPP := Lib.hid (show w.heap.size + 1 < ((w.alloc (Obj.cells (s.cs A n c0) 24)).alloc (Obj.cells (Cur.cs c) 26)).heap.size from bkLt C0.out)
  generalize ((w.alloc (Obj.cells (s.cs A n c0) 24)).alloc (Obj.cells (Cur.cs c) 26)) = w2 at *
  go_loopw [9, 10] (fun v u wr => ∃ (k : Nat) (kk : Int), k ≤ 8 ∧ kk = (k : Int) - 3 ∧ u = iv kk ∧ wr.heap[w.heap.size]? = some (.cells (s.cs A n c0) 24 (0, 0)) ∧ wr.heap[w.heap.size + 1]? = some (.cells (Cur.cs c) 26 (0, 0)) ∧ wr.ownsRow (w.heap.size + 2) 3 1 v k (rw_ F k) ∧ Below w.heap.size w wr) (fun _ u _ => (5 - intOf u).toNat)
  case atStart => exact ⟨0, -3, by omega, by omega, rfl, P0.out, C0.out, ⟨by simp [rw_], .inl ⟨rfl, rfl⟩⟩, B0⟩
  case round =>
    clear P0 C0 B0 y1
    obtain ⟨k, kk, hk, hkk, rfl, hP, hC, hO, hB⟩ := hrel
    have P3 := Lib.hid hP
    have C3 := Lib.hid hC
    have O3 := Lib.hid hO
    have B3 := hB
    have y1 := (bkCell C3.out 1).trans (show _ = some (iv c.frac) from rfl)
    clear hP hC hB
    have HKK := Lib.hid hkk
    have b0 : -3 ≤ kk := by omega
    have b1 : kk ≤ 5 := by omega
    by_cases hlt : k < 8
    · have dk : decide (kk ≤ 4) = true := decide_eq_true (by omega)
      clear hkk hO
      by_cases h0 : wt K f k = 0
      · have e0 : (wt K f k != 0) = false := by simp [h0]
        have F0 := Lib.hid ((HFK.out k).trans (if_pos h0))
        have C4 := C3
        have P4 := P3
        have O4 := O3
        have B4 := B3
        clear h0
        go_upto_region 8 with (go_at_call 118; (with_reducible refine (WC.out k kk HKK.out hlt _).mono ?_); rintro e w5 ⟨rfl, rfl⟩)
        clear dk y1
        go_upto_region 4 with (first
          | (at_builtin; refine wpList_append_own _ rfl _ _ 22 rfl (w.heap.size + 2) 3 i0 (.int .i64 0) 1 8 Try.underlying22 hi hz0 hz1 hz2 rfl (by decide) _ _ _ rfl (ownV O4.out ((Below.refl _ _).alloc (Nat.le_refl _) _)) ⟨wr.heap.size, 0, none⟩ 1 1 [iv 0] rfl rfl (World.news_of_block (cs := #[iv 0]) (t := 3) (fr := (0, 0)) (heap_alloc_new wr _)) (by simp [Value.oneCell']) (by unfold maxLen; omega) (by omega) (by have := bkLt C4.out; simp; omega) ?_; intro v' w12 hown hgrow _))
        have P5 := Lib.hid (grBlk (bkAlloc P4.out _) hgrow (by intro h; have := ownRowB O4.out _ h.symm; omega))
        have C5 := Lib.hid (grBlk (bkAlloc C4.out _) hgrow (by intro h; have := ownRowB O4.out _ h.symm; omega))
        have O5 := Lib.hid (ownN hown (show _ = rw_ F (k + 1) from by rw [← rw_more, F0.out]))
        have B5 := (B4.alloc B4.size _).grown hgrow (by have := B4.size; simp <;> omega) (fun q hq => by have := ownRowB O4.out q hq; omega)
        have e9 : wrap64 (kk + 1) = kk + 1 := wrap_in (by omega) (by omega)
        clear hown hgrow P4 C4 O4 B4
        go_wp2
        exact ⟨⟨k + 1, kk + 1, by omega, by have := HKK.out; omega, rfl, P5.out, C5.out, O5.out, B5⟩, by have := HKK.out; simp [intOf]; omega⟩
      · have e0 : (wt K f k != 0) = true := by simp [h0]
        have H0 := Lib.hid h0
        clear h0
        go_upto_region 7 with (go_at_call 118; (with_reducible refine (WC.out k kk HKK.out hlt _).mono ?_); rintro e w5 ⟨rfl, rfl⟩)
        clear dk y1
        have TQ := Lib.hid (TC.out k kk HKK.out hlt H0.out wr (HD.out.later B3))
        go_upto_region 8 with (first
          | (refine wpList_load_row rfl 24 (.tmp 4) rfl (w.heap.size) rfl 24 _ (0, 0) _ P3.out Try.underlying24 rfl (S.i24 _ _ _ _) ?_)
          | (refine wpList_load_row rfl 26 (.tmp 5) rfl (w.heap.size + 1) rfl 26 _ (0, 0) _ C3.out Try.underlying26 rfl (Cur.i26 _) ?_)
          | (go_at_call 27; (with_reducible refine TQ.out.mono ?_); rintro e w7 ⟨rfl, hb7⟩; have P4 := Lib.hid (bkBelow P3.out hb7); have C4 := Lib.hid (bkBelow C3.out hb7); have O4 := Lib.hid (ownV O3.out hb7); have B4 := bdT B3 B3.size hb7; clear hb7))
        go_upto_region 4 with (first
          | (at_builtin; refine wpList_append_own _ rfl _ _ 22 rfl (w.heap.size + 2) 3 i0 (.int .i64 0) 1 8 Try.underlying22 hi hz0 hz1 hz2 rfl (by decide) _ _ _ rfl (ownV O4.out ((Below.refl _ _).alloc (Nat.le_refl _) _)) ⟨w7.heap.size, 0, none⟩ 1 1 [iv (F k)] rfl rfl (World.news_of_block (cs := #[iv (F k)]) (t := 3) (fr := (0, 0)) (heap_alloc_new w7 _)) (by simp [Value.oneCell']) (by unfold maxLen; omega) (by omega) (by have := bkLt C4.out; simp; omega) ?_; intro v' w12 hown hgrow _))
        have P5 := Lib.hid (grBlk (bkAlloc P4.out _) hgrow (by intro h; have := ownRowB O4.out _ h.symm; omega))
        have C5 := Lib.hid (grBlk (bkAlloc C4.out _) hgrow (by intro h; have := ownRowB O4.out _ h.symm; omega))
        have O5 := Lib.hid (ownN hown (show _ = rw_ F (k + 1) from rw_more F k))
        have B5 := (B4.alloc B4.size _).grown hgrow (by have := B4.size; simp <;> omega) (fun q hq => by have := ownRowB O4.out q hq; omega)
        have e9 : wrap64 (kk + 1) = kk + 1 := wrap_in (by omega) (by omega)
        clear hown hgrow P4 C4 O4 B4
        go_wp2
        exact ⟨⟨k + 1, kk + 1, by omega, by have := HKK.out; omega, rfl, P5.out, C5.out, O5.out, B5⟩, by have := HKK.out; simp [intOf]; omega⟩
    · obtain rfl : k = 8 := by omega
      have dk : decide (kk ≤ 4) = false := decide_eq_false (by omega)
      obtain ⟨A', c', g', rfl, hdat, _⟩ := ownDataV hO
      have MQ := Lib.hid (MC.out A' c' g' 0 wr hdat)
      clear hkk hO hdat
      go_wp2_with (go_at_call 119; (with_reducible refine MQ.out.mono ?_); rintro e w6 ⟨rfl, hb6⟩)
      go_ret
      exact ⟨rfl, bdT B3 B3.size hb6⟩
set_option maxHeartbeats 16000000 in
set_option maxRecDepth 100000 in
theorem rat_kinda (s : S) (A : Option Addr) (n c0 b o : Nat) (xs : Nat → Int) (c : Cur) (kind : Int) (held : Bool) (h : kind < 0) (hn : n ≤ 9223372036854775807) (hc0 : n ≤ c0) (w : World) (hA : DataAt w A n b o xs) : Calls Try.prog 42 #[.agg (s.cs A n c0), .agg (Cur.cs c), iv kind, .bool held] w fun e w' => e = .returned (iv 0) ∧ Below w.heap.size w w' := by
  have B0 : Below w.heap.size w ((w.alloc (Obj.cells (s.cs A n c0) 24)).alloc (Obj.cells (Cur.cs c) 26)) := ((Below.refl _ _).alloc (Nat.le_refl _) _).alloc (by simp) _
  have P0 := Lib.hid (heap_alloc2_old w (Obj.cells (s.cs A n c0) 24) (Obj.cells (Cur.cs c) 26))
  have C0 := Lib.hid (heap_alloc2_new w (Obj.cells (s.cs A n c0) 24) (Obj.cells (Cur.cs c) 26))
  have D0 := Lib.hid (hA.later B0)
  have VC := Lib.hid fun (W : World) (h : DataAt W A n b o xs) => rvalid_any s A n c0 b o xs hn hc0 W h
  have y3 : (Cur.cs c)[3]? = some (.bool c.done) := rfl
  have d1 : decide (kind < 0) = true := decide_eq_true (by omega)
  clear hA
  go_enter Try.func42, Try.ntmps42
  go_wp2
  go_ret
  exact ⟨rfl, B0⟩
set_option maxHeartbeats 16000000 in
set_option maxRecDepth 100000 in
theorem rat_kindb (s : S) (A : Option Addr) (n c0 b o : Nat) (xs : Nat → Int) (c : Cur) (kind : Int) (held : Bool) (h : 4 < kind) (hn : n ≤ 9223372036854775807) (hc0 : n ≤ c0) (w : World) (hA : DataAt w A n b o xs) : Calls Try.prog 42 #[.agg (s.cs A n c0), .agg (Cur.cs c), iv kind, .bool held] w fun e w' => e = .returned (iv 0) ∧ Below w.heap.size w w' := by
  have B0 : Below w.heap.size w ((w.alloc (Obj.cells (s.cs A n c0) 24)).alloc (Obj.cells (Cur.cs c) 26)) := ((Below.refl _ _).alloc (Nat.le_refl _) _).alloc (by simp) _
  have P0 := Lib.hid (heap_alloc2_old w (Obj.cells (s.cs A n c0) 24) (Obj.cells (Cur.cs c) 26))
  have C0 := Lib.hid (heap_alloc2_new w (Obj.cells (s.cs A n c0) 24) (Obj.cells (Cur.cs c) 26))
  have D0 := Lib.hid (hA.later B0)
  have VC := Lib.hid fun (W : World) (h : DataAt W A n b o xs) => rvalid_any s A n c0 b o xs hn hc0 W h
  have y3 : (Cur.cs c)[3]? = some (.bool c.done) := rfl
  have d1 : decide (kind < 0) = false := decide_eq_false (by omega)
  have d2 : decide (4 < kind) = true := decide_eq_true (by omega)
  clear hA
  go_enter Try.func42, Try.ntmps42
  go_wp2
  go_ret
  exact ⟨rfl, B0⟩
set_option maxHeartbeats 16000000 in
set_option maxRecDepth 100000 in
theorem rat_done (s : S) (A : Option Addr) (n c0 b o : Nat) (xs : Nat → Int) (c : Cur) (kind : Int) (held : Bool) (h : 0 ≤ kind) (h2 : kind ≤ 4) (hd : c.done = true) (hn : n ≤ 9223372036854775807) (hc0 : n ≤ c0) (w : World) (hA : DataAt w A n b o xs) : Calls Try.prog 42 #[.agg (s.cs A n c0), .agg (Cur.cs c), iv kind, .bool held] w fun e w' => e = .returned (iv 0) ∧ Below w.heap.size w w' := by
  have B0 : Below w.heap.size w ((w.alloc (Obj.cells (s.cs A n c0) 24)).alloc (Obj.cells (Cur.cs c) 26)) := ((Below.refl _ _).alloc (Nat.le_refl _) _).alloc (by simp) _
  have P0 := Lib.hid (heap_alloc2_old w (Obj.cells (s.cs A n c0) 24) (Obj.cells (Cur.cs c) 26))
  have C0 := Lib.hid (heap_alloc2_new w (Obj.cells (s.cs A n c0) 24) (Obj.cells (Cur.cs c) 26))
  have D0 := Lib.hid (hA.later B0)
  have VC := Lib.hid fun (W : World) (h : DataAt W A n b o xs) => rvalid_any s A n c0 b o xs hn hc0 W h
  have y3 : (Cur.cs c)[3]? = some (.bool c.done) := rfl
  have d1 : decide (kind < 0) = false := decide_eq_false (by omega)
  have d2 : decide (4 < kind) = false := decide_eq_false (by omega)
  rw [hd] at y3
  clear hd
  clear hA
  go_enter Try.func42, Try.ntmps42
  go_wp2
  go_ret
  exact ⟨rfl, B0⟩
set_option maxHeartbeats 16000000 in
set_option maxRecDepth 100000 in
theorem rat_bad (s : S) (A : Option Addr) (n c0 b o : Nat) (xs : Nat → Int) (c : Cur) (kind : Int) (held : Bool) (h : 0 ≤ kind) (h2 : kind ≤ 4) (hd : c.done = false) (hv : vS s n xs = false) (hn : n ≤ 9223372036854775807) (hc0 : n ≤ c0) (w : World) (hA : DataAt w A n b o xs) : Calls Try.prog 42 #[.agg (s.cs A n c0), .agg (Cur.cs c), iv kind, .bool held] w fun e w' => e = .returned (iv 0) ∧ Below w.heap.size w w' := by
  have B0 : Below w.heap.size w ((w.alloc (Obj.cells (s.cs A n c0) 24)).alloc (Obj.cells (Cur.cs c) 26)) := ((Below.refl _ _).alloc (Nat.le_refl _) _).alloc (by simp) _
  have P0 := Lib.hid (heap_alloc2_old w (Obj.cells (s.cs A n c0) 24) (Obj.cells (Cur.cs c) 26))
  have C0 := Lib.hid (heap_alloc2_new w (Obj.cells (s.cs A n c0) 24) (Obj.cells (Cur.cs c) 26))
  have D0 := Lib.hid (hA.later B0)
  have VC := Lib.hid fun (W : World) (h : DataAt W A n b o xs) => rvalid_any s A n c0 b o xs hn hc0 W h
  have y3 : (Cur.cs c)[3]? = some (.bool c.done) := rfl
  have d1 : decide (kind < 0) = false := decide_eq_false (by omega)
  have d2 : decide (4 < kind) = false := decide_eq_false (by omega)
  rw [hd] at y3
  rw [hv] at VC
  clear hd hv
  clear hA
  go_enter Try.func42, Try.ntmps42
  go_wp2_with (first
    | (refine gdOn (by rfl) ?_; refine wpList_load_row rfl 24 (.tmp 4) rfl (w.heap.size) rfl 24 _ (0, 0) _ P0.out Try.underlying24 rfl (S.i24 _ _ _ _) ?_)
    | (go_at_call 25; (with_reducible refine (VC.out _ D0.out).mono ?_); rintro e w1 ⟨rfl, hb1⟩; have P1 := Lib.hid (bkBelow P0.out hb1); have C1 := Lib.hid (bkBelow C0.out hb1); have D1 := Lib.hid (D0.out.later hb1); have B1 := bdT B0 B0.size hb1; have p1 := (bkCell P1.out 1).trans (show _ = some (Value.slice A n c0) from rfl); have z0 := (bkCell C1.out 0).trans (show _ = some (iv c.pos) from rfl); have z1 := (bkCell C1.out 1).trans (show _ = some (iv c.frac) from rfl)))
  go_ret
  exact ⟨rfl, B1⟩
set_option maxHeartbeats 16000000 in
set_option maxRecDepth 100000 in
theorem rat_c0 (s : S) (A : Option Addr) (n c0 b o : Nat) (xs : Nat → Int) (c : Cur) (kind : Int) (held : Bool) (h : 0 ≤ kind) (h2 : kind ≤ 4) (hd : c.done = false) (hv : vS s n xs = true) (q1 : c.pos < 0) (hn : n ≤ 9223372036854775807) (hc0 : n ≤ c0) (w : World) (hA : DataAt w A n b o xs) : Calls Try.prog 42 #[.agg (s.cs A n c0), .agg (Cur.cs c), iv kind, .bool held] w fun e w' => e = .returned (iv 0) ∧ Below w.heap.size w w' := by
  have B0 : Below w.heap.size w ((w.alloc (Obj.cells (s.cs A n c0) 24)).alloc (Obj.cells (Cur.cs c) 26)) := ((Below.refl _ _).alloc (Nat.le_refl _) _).alloc (by simp) _
  have P0 := Lib.hid (heap_alloc2_old w (Obj.cells (s.cs A n c0) 24) (Obj.cells (Cur.cs c) 26))
  have C0 := Lib.hid (heap_alloc2_new w (Obj.cells (s.cs A n c0) 24) (Obj.cells (Cur.cs c) 26))
  have D0 := Lib.hid (hA.later B0)
  have VC := Lib.hid fun (W : World) (h : DataAt W A n b o xs) => rvalid_any s A n c0 b o xs hn hc0 W h
  have y3 : (Cur.cs c)[3]? = some (.bool c.done) := rfl
  have d1 : decide (kind < 0) = false := decide_eq_false (by omega)
  have d2 : decide (4 < kind) = false := decide_eq_false (by omega)
  have d3 : decide (c.pos < 0) = true := decide_eq_true (by omega)
  rw [hd] at y3
  rw [hv] at VC
  clear hd hv
  clear hA
  go_enter Try.func42, Try.ntmps42
  go_wp2_with (first
    | (refine gdOn (by rfl) ?_; refine wpList_load_row rfl 24 (.tmp 4) rfl (w.heap.size) rfl 24 _ (0, 0) _ P0.out Try.underlying24 rfl (S.i24 _ _ _ _) ?_)
    | (go_at_call 25; (with_reducible refine (VC.out _ D0.out).mono ?_); rintro e w1 ⟨rfl, hb1⟩; have P1 := Lib.hid (bkBelow P0.out hb1); have C1 := Lib.hid (bkBelow C0.out hb1); have D1 := Lib.hid (D0.out.later hb1); have B1 := bdT B0 B0.size hb1; have p1 := (bkCell P1.out 1).trans (show _ = some (Value.slice A n c0) from rfl); have z0 := (bkCell C1.out 0).trans (show _ = some (iv c.pos) from rfl); have z1 := (bkCell C1.out 1).trans (show _ = some (iv c.frac) from rfl)))
  go_ret
  exact ⟨rfl, B1⟩
set_option maxHeartbeats 16000000 in
set_option maxRecDepth 100000 in
theorem rat_c1 (s : S) (A : Option Addr) (n c0 b o : Nat) (xs : Nat → Int) (c : Cur) (kind : Int) (held : Bool) (h : 0 ≤ kind) (h2 : kind ≤ 4) (hd : c.done = false) (hv : vS s n xs = true) (q1 : 0 ≤ c.pos) (q2 : (n : Int) ≤ c.pos) (hn : n ≤ 9223372036854775807) (hc0 : n ≤ c0) (w : World) (hA : DataAt w A n b o xs) : Calls Try.prog 42 #[.agg (s.cs A n c0), .agg (Cur.cs c), iv kind, .bool held] w fun e w' => e = .returned (iv 0) ∧ Below w.heap.size w w' := by
  have B0 : Below w.heap.size w ((w.alloc (Obj.cells (s.cs A n c0) 24)).alloc (Obj.cells (Cur.cs c) 26)) := ((Below.refl _ _).alloc (Nat.le_refl _) _).alloc (by simp) _
  have P0 := Lib.hid (heap_alloc2_old w (Obj.cells (s.cs A n c0) 24) (Obj.cells (Cur.cs c) 26))
  have C0 := Lib.hid (heap_alloc2_new w (Obj.cells (s.cs A n c0) 24) (Obj.cells (Cur.cs c) 26))
  have D0 := Lib.hid (hA.later B0)
  have VC := Lib.hid fun (W : World) (h : DataAt W A n b o xs) => rvalid_any s A n c0 b o xs hn hc0 W h
  have y3 : (Cur.cs c)[3]? = some (.bool c.done) := rfl
  have d1 : decide (kind < 0) = false := decide_eq_false (by omega)
  have d2 : decide (4 < kind) = false := decide_eq_false (by omega)
  have d3 : decide (c.pos < 0) = false := decide_eq_false (by omega)
  have d4 : decide ((n : Int) ≤ c.pos) = true := decide_eq_true (by omega)
  rw [hd] at y3
  rw [hv] at VC
  clear hd hv
  clear hA
  go_enter Try.func42, Try.ntmps42
  go_wp2_with (first
    | (refine gdOn (by rfl) ?_; refine wpList_load_row rfl 24 (.tmp 4) rfl (w.heap.size) rfl 24 _ (0, 0) _ P0.out Try.underlying24 rfl (S.i24 _ _ _ _) ?_)
    | (go_at_call 25; (with_reducible refine (VC.out _ D0.out).mono ?_); rintro e w1 ⟨rfl, hb1⟩; have P1 := Lib.hid (bkBelow P0.out hb1); have C1 := Lib.hid (bkBelow C0.out hb1); have D1 := Lib.hid (D0.out.later hb1); have B1 := bdT B0 B0.size hb1; have p1 := (bkCell P1.out 1).trans (show _ = some (Value.slice A n c0) from rfl); have z0 := (bkCell C1.out 0).trans (show _ = some (iv c.pos) from rfl); have z1 := (bkCell C1.out 1).trans (show _ = some (iv c.frac) from rfl)))
  go_ret
  exact ⟨rfl, B1⟩
set_option maxHeartbeats 16000000 in
set_option maxRecDepth 100000 in
theorem rat_c2 (s : S) (A : Option Addr) (n c0 b o : Nat) (xs : Nat → Int) (c : Cur) (kind : Int) (held : Bool) (h : 0 ≤ kind) (h2 : kind ≤ 4) (hd : c.done = false) (hv : vS s n xs = true) (q1 : 0 ≤ c.pos) (q2 : c.pos < n) (q3 : c.frac < 0) (hn : n ≤ 9223372036854775807) (hc0 : n ≤ c0) (w : World) (hA : DataAt w A n b o xs) : Calls Try.prog 42 #[.agg (s.cs A n c0), .agg (Cur.cs c), iv kind, .bool held] w fun e w' => e = .returned (iv 0) ∧ Below w.heap.size w w' := by
  have B0 : Below w.heap.size w ((w.alloc (Obj.cells (s.cs A n c0) 24)).alloc (Obj.cells (Cur.cs c) 26)) := ((Below.refl _ _).alloc (Nat.le_refl _) _).alloc (by simp) _
  have P0 := Lib.hid (heap_alloc2_old w (Obj.cells (s.cs A n c0) 24) (Obj.cells (Cur.cs c) 26))
  have C0 := Lib.hid (heap_alloc2_new w (Obj.cells (s.cs A n c0) 24) (Obj.cells (Cur.cs c) 26))
  have D0 := Lib.hid (hA.later B0)
  have VC := Lib.hid fun (W : World) (h : DataAt W A n b o xs) => rvalid_any s A n c0 b o xs hn hc0 W h
  have y3 : (Cur.cs c)[3]? = some (.bool c.done) := rfl
  have d1 : decide (kind < 0) = false := decide_eq_false (by omega)
  have d2 : decide (4 < kind) = false := decide_eq_false (by omega)
  have d3 : decide (c.pos < 0) = false := decide_eq_false (by omega)
  have d4 : decide ((n : Int) ≤ c.pos) = false := decide_eq_false (by omega)
  have d5 : decide (c.frac < 0) = true := decide_eq_true (by omega)
  rw [hd] at y3
  rw [hv] at VC
  clear hd hv
  clear hA
  go_enter Try.func42, Try.ntmps42
  go_wp2_with (first
    | (refine gdOn (by rfl) ?_; refine wpList_load_row rfl 24 (.tmp 4) rfl (w.heap.size) rfl 24 _ (0, 0) _ P0.out Try.underlying24 rfl (S.i24 _ _ _ _) ?_)
    | (go_at_call 25; (with_reducible refine (VC.out _ D0.out).mono ?_); rintro e w1 ⟨rfl, hb1⟩; have P1 := Lib.hid (bkBelow P0.out hb1); have C1 := Lib.hid (bkBelow C0.out hb1); have D1 := Lib.hid (D0.out.later hb1); have B1 := bdT B0 B0.size hb1; have p1 := (bkCell P1.out 1).trans (show _ = some (Value.slice A n c0) from rfl); have z0 := (bkCell C1.out 0).trans (show _ = some (iv c.pos) from rfl); have z1 := (bkCell C1.out 1).trans (show _ = some (iv c.frac) from rfl)))
  go_ret
  exact ⟨rfl, B1⟩
set_option maxHeartbeats 16000000 in
set_option maxRecDepth 100000 in
theorem rat_c3 (s : S) (A : Option Addr) (n c0 b o : Nat) (xs : Nat → Int) (c : Cur) (kind : Int) (held : Bool) (h : 0 ≤ kind) (h2 : kind ≤ 4) (hd : c.done = false) (hv : vS s n xs = true) (q1 : 0 ≤ c.pos) (q2 : c.pos < n) (q3 : 0 ≤ c.frac) (q4 : 65535 < c.frac) (hn : n ≤ 9223372036854775807) (hc0 : n ≤ c0) (w : World) (hA : DataAt w A n b o xs) : Calls Try.prog 42 #[.agg (s.cs A n c0), .agg (Cur.cs c), iv kind, .bool held] w fun e w' => e = .returned (iv 0) ∧ Below w.heap.size w w' := by
  have B0 : Below w.heap.size w ((w.alloc (Obj.cells (s.cs A n c0) 24)).alloc (Obj.cells (Cur.cs c) 26)) := ((Below.refl _ _).alloc (Nat.le_refl _) _).alloc (by simp) _
  have P0 := Lib.hid (heap_alloc2_old w (Obj.cells (s.cs A n c0) 24) (Obj.cells (Cur.cs c) 26))
  have C0 := Lib.hid (heap_alloc2_new w (Obj.cells (s.cs A n c0) 24) (Obj.cells (Cur.cs c) 26))
  have D0 := Lib.hid (hA.later B0)
  have VC := Lib.hid fun (W : World) (h : DataAt W A n b o xs) => rvalid_any s A n c0 b o xs hn hc0 W h
  have y3 : (Cur.cs c)[3]? = some (.bool c.done) := rfl
  have d1 : decide (kind < 0) = false := decide_eq_false (by omega)
  have d2 : decide (4 < kind) = false := decide_eq_false (by omega)
  have d3 : decide (c.pos < 0) = false := decide_eq_false (by omega)
  have d4 : decide ((n : Int) ≤ c.pos) = false := decide_eq_false (by omega)
  have d5 : decide (c.frac < 0) = false := decide_eq_false (by omega)
  have d6 : decide (65535 < c.frac) = true := decide_eq_true (by omega)
  rw [hd] at y3
  rw [hv] at VC
  clear hd hv
  clear hA
  go_enter Try.func42, Try.ntmps42
  go_wp2_with (first
    | (refine gdOn (by rfl) ?_; refine wpList_load_row rfl 24 (.tmp 4) rfl (w.heap.size) rfl 24 _ (0, 0) _ P0.out Try.underlying24 rfl (S.i24 _ _ _ _) ?_)
    | (go_at_call 25; (with_reducible refine (VC.out _ D0.out).mono ?_); rintro e w1 ⟨rfl, hb1⟩; have P1 := Lib.hid (bkBelow P0.out hb1); have C1 := Lib.hid (bkBelow C0.out hb1); have D1 := Lib.hid (D0.out.later hb1); have B1 := bdT B0 B0.size hb1; have p1 := (bkCell P1.out 1).trans (show _ = some (Value.slice A n c0) from rfl); have z0 := (bkCell C1.out 0).trans (show _ = some (iv c.pos) from rfl); have z1 := (bkCell C1.out 1).trans (show _ = some (iv c.frac) from rfl)))
  go_ret
  exact ⟨rfl, B1⟩
set_option maxHeartbeats 16000000 in
set_option maxRecDepth 100000 in
theorem rat_ok (s : S) (A : Option Addr) (n c0 b o : Nat) (xs : Nat → Int) (c : Cur) (kind : Nat) (held : Bool) (h2 : kind ≤ 4) (hd : c.done = false) (hv : vS s n xs = true) (q1 : 0 ≤ c.pos) (q2 : c.pos < n) (q3 : 0 ≤ c.frac) (q4 : c.frac ≤ 65535) (hn : n ≤ 9223372036854775807) (hc0 : n ≤ c0) (w : World) (hA : DataAt w A n b o xs) : Calls Try.prog 42 #[.agg (s.cs A n c0), .agg (Cur.cs c), iv kind, .bool held] w fun e w' => e = .returned (iv (sndM s n xs c held kind)) ∧ Below w.heap.size w w' := by
  have B0 : Below w.heap.size w ((w.alloc (Obj.cells (s.cs A n c0) 24)).alloc (Obj.cells (Cur.cs c) 26)) := ((Below.refl _ _).alloc (Nat.le_refl _) _).alloc (by simp) _
  have P0 := Lib.hid (heap_alloc2_old w (Obj.cells (s.cs A n c0) 24) (Obj.cells (Cur.cs c) 26))
  have C0 := Lib.hid (heap_alloc2_new w (Obj.cells (s.cs A n c0) 24) (Obj.cells (Cur.cs c) 26))
  have D0 := Lib.hid (hA.later B0)
  have VC := Lib.hid fun (W : World) (h : DataAt W A n b o xs) => rvalid_any s A n c0 b o xs hn hc0 W h
  have y3 : (Cur.cs c)[3]? = some (.bool c.done) := rfl
  have d1 : decide ((kind : Int) < 0) = false := decide_eq_false (by omega)
  have d2 : decide (4 < (kind : Int)) = false := decide_eq_false (by omega)
  have n2 : decide (4 < kind) = false := decide_eq_false (by omega)
  have d3 : decide (c.pos < 0) = false := decide_eq_false (by omega)
  have d4 : decide ((n : Int) ≤ c.pos) = false := decide_eq_false (by omega)
  have d5 : decide (c.frac < 0) = false := decide_eq_false (by omega)
  have d6 : decide (65535 < c.frac) = false := decide_eq_false (by omega)
  have hk : okB n c = true := by unfold okB; rw [if_neg (by rw [hd]; decide)]; exact decide_eq_true (by omega)
  have SC := Lib.hid fun (W : World) (h : DataAt W A n b o xs) => rsound_any kind h2 s A n c0 b o xs c held hv hk hd hn hc0 W h
  clear hk
  rw [hd] at y3
  rw [hv] at VC
  clear hd hv
  clear hA
  go_enter Try.func42, Try.ntmps42
  go_upto_region 3 with (first
    | (refine gdOn (by rfl) ?_; refine wpList_load_row rfl 24 (.tmp 4) rfl (w.heap.size) rfl 24 _ (0, 0) _ P0.out Try.underlying24 rfl (S.i24 _ _ _ _) ?_)
    | (go_at_call 25; (with_reducible refine (VC.out _ D0.out).mono ?_); rintro e w1 ⟨rfl, hb1⟩; have P1 := Lib.hid (bkBelow P0.out hb1); have C1 := Lib.hid (bkBelow C0.out hb1); have D1 := Lib.hid (D0.out.later hb1); have B1 := bdT B0 B0.size hb1; have p1 := (bkCell P1.out 1).trans (show _ = some (Value.slice A n c0) from rfl); have z0 := (bkCell C1.out 0).trans (show _ = some (iv c.pos) from rfl); have z1 := (bkCell C1.out 1).trans (show _ = some (iv c.frac) from rfl)))
  clear d1 d2 n2 d3 d4 d5 d6 z0 z1 p1
  go_wp2_with (first
    | (refine wpList_load_row rfl 24 (.tmp 4) rfl (w.heap.size) rfl 24 _ (0, 0) _ P1.out Try.underlying24 rfl (S.i24 _ _ _ _) ?_)
    | (refine wpList_load_row rfl 26 (.tmp 5) rfl (w.heap.size + 1) rfl 26 _ (0, 0) _ C1.out Try.underlying26 rfl (Cur.i26 _) ?_)
    | (go_at_call 86; (with_reducible refine (SC.out _ D1.out).mono ?_); rintro e w2 ⟨rfl, hb2⟩; have B2 := bdT B1 B1.size hb2))
  go_ret
  exact ⟨rfl, B2⟩
theorem rat_any (s : S) (A : Option Addr) (n c0 b o : Nat) (xs : Nat → Int) (c : Cur) (kind : Int) (held : Bool) (hn : n ≤ 9223372036854775807) (hc0 : n ≤ c0) (w : World) (hA : DataAt w A n b o xs) : Calls Try.prog 42 #[.agg (s.cs A n c0), .agg (Cur.cs c), iv kind, .bool held] w fun e w' => e = .returned (iv (atA s n xs c kind held)) ∧ Below w.heap.size w w' := by
  by_cases h0 : kind < 0
  · rw [show atA s n xs c kind held = 0 from if_neg (by omega)]
    exact rat_kinda s A n c0 b o xs c kind held h0 hn hc0 w hA
  by_cases h1 : 4 < kind
  · rw [show atA s n xs c kind held = 0 from if_neg (by omega)]
    exact rat_kindb s A n c0 b o xs c kind held h1 hn hc0 w hA
  cases hd : c.done
  case true =>
    rw [show atA s n xs c kind held = 0 from if_neg (by rw [hd]; simp)]
    exact rat_done s A n c0 b o xs c kind held (by omega) (by omega) hd hn hc0 w hA
  cases hv : vS s n xs
  · rw [show atA s n xs c kind held = 0 from if_neg (by rw [hv]; simp)]
    exact rat_bad s A n c0 b o xs c kind held (by omega) (by omega) hd hv hn hc0 w hA
  have hok : okB n c = decide (0 ≤ c.pos ∧ c.pos < n ∧ 0 ≤ c.frac ∧ c.frac < 65536) := if_neg (by rw [hd]; decide)
  by_cases q1 : c.pos < 0
  · rw [show atA s n xs c kind held = 0 from if_neg (by rw [hok, decide_eq_false (by omega)]; simp)]
    exact rat_c0 s A n c0 b o xs c kind held (by omega) (by omega) hd hv q1 hn hc0 w hA
  by_cases q2 : (n : Int) ≤ c.pos
  · rw [show atA s n xs c kind held = 0 from if_neg (by rw [hok, decide_eq_false (by omega)]; simp)]
    exact rat_c1 s A n c0 b o xs c kind held (by omega) (by omega) hd hv (by omega) q2 hn hc0 w hA
  by_cases q3 : c.frac < 0
  · rw [show atA s n xs c kind held = 0 from if_neg (by rw [hok, decide_eq_false (by omega)]; simp)]
    exact rat_c2 s A n c0 b o xs c kind held (by omega) (by omega) hd hv (by omega) (by omega) q3 hn hc0 w hA
  by_cases q4 : 65535 < c.frac
  · rw [show atA s n xs c kind held = 0 from if_neg (by rw [hok, decide_eq_false (by omega)]; simp)]
    exact rat_c3 s A n c0 b o xs c kind held (by omega) (by omega) hd hv (by omega) (by omega) (by omega) q4 hn hc0 w hA
  obtain ⟨K, rfl⟩ := Int.eq_ofNat_of_zero_le (show 0 ≤ kind by omega)
  rw [show atA s n xs c K held = sndM s n xs c held K from if_pos ⟨by omega, by omega, hv, by rw [hok]; exact decide_eq_true (by omega), hd⟩]
  exact rat_ok s A n c0 b o xs c K held (by omega) hd hv (by omega) (by omega) (by omega) (by omega) hn hc0 w hA
end Go.Proofs.Ytnmoiolddfboiaa.SX

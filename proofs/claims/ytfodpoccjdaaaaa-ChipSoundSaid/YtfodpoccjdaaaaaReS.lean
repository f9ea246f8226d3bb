/- Four operators: the law ChipSound. -/
import Derived.Test.YtfodpoccjdaaaaaReM
import Derived.Test.YtfodpoccjdaaaaaReP
import Derived.Deep.MidRow
namespace Go.Proofs.Ytfodpoccjdaaaaa.CS
open Go.RowKit Go.Proofs.YtfodpoccjdaaaaaW.PrintLast Go.Proofs.Ytfodpoccjdaaaaa.TX Go.Proofs.Ytfodpoccjdaaaaa.PG
set_option linter.unusedVariables false
set_option linter.unusedSimpArgs false
set_option maxHeartbeats 4000000 in
set_option maxRecDepth 100000 in
theorem eq43_yes (A D : Option Addr) (n c d b o b' o' : Nat) (xs : Nat → Int) (hn : n ≤ 1000000) (w : World) (hA : DataAt w A n b o xs) (hD : DataAt w D n b' o' xs) :
    Calls Try.prog 43 #[.slice A n c, .slice D n d] w fun e w' => e = .returned (.bool true) ∧ ∃ m, w' = w.drewN m := by
  have HA := Lib.hid hA
  have HD := Lib.hid hD
  have TA := Lib.hid hA.top
  have TD := Lib.hid hD.top
  clear hA hD
  have l0 : (0 : Int) ≤ (n : Int) := by omega
  have e0 : ((n : Int) != (n : Int)) = false := by simp
  go_enter Try.func43, Try.ntmps43
  go_upto_region 4 with (fail)
  go_loopw [13] (fun v wr => ∃ k : Nat, k ≤ n ∧ v = iv k ∧ ∃ m, wr = w.drewN m) (fun v _ => n - (intOf v).toNat)
  case atStart => exact ⟨0, by omega, rfl, 0, rfl⟩
  case round =>
    obtain ⟨k, hk, rfl, m, rfl⟩ := hrel
    by_cases hlt : k < n
    · have tA := TA.out (by omega)
      have tD := TD.out (by omega)
      subst tA tD
      have ha := HA.out.cell k hlt
      have hb := HD.out.cell k hlt
      generalize xs k = x at ha hb
      have h0 : (0 : Int) ≤ (k : Int) := by omega
      have h1 : (k : Int) < (n : Int) := by omega
      have e1 : (x != x) = false := by simp
      go_wp2
      go_quiet (fail)
      go_wp2
      exact ⟨⟨k + 1, by omega, by go_num, _, rfl⟩, by simp [intOf]; omega⟩
    · have h1 : decide ((k : Int) < (n : Int)) = false := decide_eq_false (by omega)
      go_wp2
      go_ret
      exact ⟨rfl, m, rfl⟩
/-- what either sound answers -/
abbrev Sounds (f : Nat) (p : RP) (fr ou on n : Int) (er : Int) (L : Nat) (F : Nat → Int) : Prop := ∀ w, Calls Try.prog f #[.agg p.cs, iv fr, iv ou, iv on, iv n] w fun e w' => ∃ A c b o, e = .returned (.tuple #[.slice A L c, iv er]) ∧ DataAt w' A L b o F ∧ Below w.heap.size w w'
theorem sounds_none {f : Nat} {p : RP} {fr ou on n er : Int} {F : Nat → Int} (h : ∀ w, Calls Try.prog f #[.agg p.cs, iv fr, iv ou, iv on, iv n] w fun e w' => e = .returned (.tuple #[.slice none 0 0, iv er]) ∧ Below w.heap.size w w') : Sounds f p fr ou on n er 0 F := fun w => (h w).mono fun e w' ⟨h1, h2⟩ => ⟨none, 0, 0, 0, h1, ⟨fun h => absurd h (Nat.lt_irrefl 0), fun h => absurd h (Nat.lt_irrefl 0), fun i h => absurd h (Nat.not_lt_zero i)⟩, h2⟩
theorem both_any (p : RP) (fr ou on n : Int) (hq : ∀ i, 4 ≤ i → p.pt.o i = p.pt.o 3) : ∃ (er : Int) (L : Nat) (F : Nat → Int), L ≤ 200000 ∧ Sounds 41 p fr ou on n er L F ∧ Sounds 42 p fr ou on n er L F := by
  by_cases hv : vpB p = false
  · exact ⟨1, 0, fun _ => 0, by omega, sounds_none (snd_bad p fr ou on n hv), sounds_none (rsnd_bad p fr ou on n hv)⟩
  · have hv : vpB p = true := by simpa using hv
    by_cases h0 : 0 ≤ n ∧ n ≤ 200000
    · by_cases h1 : 0 ≤ fr ∧ fr ≤ 16777216
      · by_cases h2 : 1000 ≤ ou ∧ ou ≤ 96000
        · by_cases h3 : 0 ≤ on ∧ on ≤ 200000
          · refine ⟨0, n.toNat, fun k => frameS p.pt (fr * 16384 / ou) on k, by omega, fun w => (snd_ok p fr ou on n hv hq h0 h1 h2 h3 w).mono ?_, fun w => (rsnd_ok p fr ou on n hv hq h0 h1 h2 h3 w).mono ?_⟩
            · rintro e w' ⟨g, h4, h5, h6⟩
              exact ⟨_, _, g, 0, h4, ⟨fun _ => rfl, fun _ => bkLt h5, fun i hi => (bkCell h5 _).trans (by rw [Nat.zero_add]; exact fb_get hi)⟩, h6⟩
            · rintro e w' h
              exact h
          · exact ⟨5, 0, fun _ => 0, by omega, sounds_none (snd_r3 p fr ou on n hv h0 h1 h2 h3), sounds_none (rsnd_r3 p fr ou on n hv h0 h1 h2 h3)⟩
        · exact ⟨5, 0, fun _ => 0, by omega, sounds_none (snd_r2 p fr ou on n hv h0 h1 h2), sounds_none (rsnd_r2 p fr ou on n hv h0 h1 h2)⟩
      · exact ⟨5, 0, fun _ => 0, by omega, sounds_none (snd_r1 p fr ou on n hv h0 h1), sounds_none (rsnd_r1 p fr ou on n hv h0 h1)⟩
    · exact ⟨5, 0, fun _ => 0, by omega, sounds_none (snd_r0 p fr ou on n hv h0), sounds_none (rsnd_r0 p fr ou on n hv h0)⟩
/-- a note -/
def note (p : RP) (fr ou on n : Int) : Array Value := fb_ (fun j => if j < 26 then p.F j else if j = 26 then iv fr else if j = 27 then iv ou else if j = 28 then iv on else iv n) 30
theorem note_range {w : World} {g : Nat} {p : RP} {fr ou on n : Int} (h : w.heap[g]? = some (.cells (note p fr ou on n) 54 (0, 0))) : w.rangeAt g 0 p.cs.toList := by
  intro j v hj
  rw [bkCell h]
  have hl : j < 26 := by
    have := (List.getElem?_eq_some_iff.1 hj).1
    rw [Array.length_toList, RP.cs, fb_size] at this
    exact this
  have h1 : p.cs[j]? = some v := by simpa using hj
  rw [RP.cs, fb_get hl] at h1
  rw [note, Nat.zero_add, fb_get (by omega), if_pos hl]
  exact h1
theorem note_cells {w : World} {g : Nat} {p : RP} {fr ou on n : Int} (h : w.heap[g]? = some (.cells (note p fr ou on n) 54 (0, 0))) : w.cell? ⟨g, 26, none⟩ = some (iv fr) ∧ w.cell? ⟨g, 27, none⟩ = some (iv ou) ∧ w.cell? ⟨g, 28, none⟩ = some (iv on) ∧ w.cell? ⟨g, 29, none⟩ = some (iv n) := ⟨bkCell h 26, bkCell h 27, bkCell h 28, bkCell h 29⟩
theorem load_pt {ops : Array Oper} {rest : List Oper} {op : Oper} {a : Act} {w : World} {Q : Exit → Act → World → Prop} (hgd : op.guard = none) (x : Operand) (ho : op.op = .load 52 x)
    (b : Nat) (hx : a.eval x = .pointer (some ⟨b, 0, none⟩)) (p : RP) (hc : w.rangeAt b 0 p.cs.toList)
    (h : wpList Try.prog ops Q rest (a.put op.dst (.agg p.cs)) w) : wpList Try.prog ops Q (op :: rest) a w :=
  wpList_load_mid hgd 52 x ho b 0 hx p.cs.toList _ hc Try.underlying52 rfl (by simpa using RP.i52 p) (by simpa using h)
theorem exec_load_pt {oi : Oper} {a : Act} {w : World} (x : Operand) (ho : oi.op = .load 52 x) (b : Nat) (hx : a.eval x = .pointer (some ⟨b, 0, none⟩)) (p : RP) (hc : w.rangeAt b 0 p.cs.toList) : (execOp a.eval oi).run Try.prog w = .ok (.value (.agg p.cs)) w := by
  have h := exec_load_mid (P := Try.prog) (a := a) 52 x ho b 0 hx p.cs.toList _ hc Try.underlying52 rfl (by simpa using RP.i52 p)
  simpa using h
theorem quietB {w w' : World} {m : Nat} (h : w' = w.drewN m) : Below w.heap.size w w' := h ▸ bdN (Below.refl _ _) m
set_option maxHeartbeats 16000000 in
set_option maxRecDepth 100000 in
theorem sound_law (p : RP) (fr ou on n : Int) (hq : ∀ i, 4 ≤ i → p.pt.o i = p.pt.o 3) (w : World) : Calls Try.prog 6 #[.agg (note p fr ou on n)] w fun e w' => e = .returned (.bool true) ∧ Below w.heap.size w w' := by
  obtain ⟨er, L, F, hL, q1, q2⟩ := both_any p fr ou on n hq
  have HL := Lib.hid (show L ≤ 1000000 by omega)
  have Q1 := Lib.hid q1
  have Q2 := Lib.hid q2
  clear q1 q2 hL
  have B0 : Below w.heap.size w (w.alloc (Obj.cells (note p fr ou on n) 54)) := (Below.refl _ _).alloc (Nat.le_refl _) _
  have N0 := Lib.hid (heap_alloc_new w (Obj.cells (note p fr ou on n) 54))
  obtain ⟨z0, z1, z2, z3⟩ := note_cells N0.out
  by_cases hn : n > 600
  · have g0 : decide (600 < n) = true := decide_eq_true hn
    clear hn
    go_enter Try.func6, Try.ntmps6
    go_wp2
    go_ret
    exact ⟨rfl, B0⟩
  · have g0 : decide (600 < n) = false := decide_eq_false hn
    clear hn
    go_enter Try.func6, Try.ntmps6
    go_upto_region 4 with (first
      | (refine load_pt rfl (.tmp 11) rfl w.heap.size rfl p (note_range N0.out) ?_)
      | (go_at_call 41; (with_reducible refine (Q1.out _).mono ?_); rintro e w1 ⟨A, c, b, o, rfl, hA, hb1⟩; have N1 := Lib.hid (bkBelow N0.out hb1); have DA1 := Lib.hid hA; have B1 := Lib.hid (bdT B0 B0.size hb1); clear hA hb1))
    clear z0 z1 z2 z3 N0 B0
    obtain ⟨z0, z1, z2, z3⟩ := note_cells N1.out
    go_upto_region 5 with (first
      | (refine load_pt rfl (.tmp 25) rfl w.heap.size rfl p (note_range N1.out) ?_)
      | (go_at_call 42; (with_reducible refine (Q2.out _).mono ?_); rintro e w3 ⟨D, d, b', o', rfl, hD, hb3⟩; have N3 := Lib.hid (bkBelow N1.out hb3); have DA := Lib.hid (DA1.out.later hb3); have DD := Lib.hid hD; have B3 := Lib.hid (bdT B1.out B1.out.size hb3); clear hD hb3))
    clear z0 z1 z2 z3 N1 DA1 B1
    have e0 : (er == er) = true := by simp
    have e1 : (vpB p == vpB p) = true := by simp
    refine start_ (n := 18) (S := fun w' => w'.heap[w.heap.size]? = some (.cells (note p fr ou on n) 54 (0, 0)) ∧ DataAt w' A L b o F ∧ DataAt w' D L b' o' F ∧ Below w.heap.size w w') (ds := []) #[false, false, false, false, false, false, false, false, false, false, false, false, false, false, false, false, false, false] (by kernel_rfl) rfl rfl ⟨N3.out, ⟨DA.out.top, DA.out.low, DA.out.cell⟩, ⟨DD.out.top, DD.out.low, DD.out.cell⟩, B3.out.drew⟩ (fun hHeld => ?_)
    refine pure_ (i := 0) (N := some 38) (v := ?_) (a' := ?_) #[true, false, false, false, false, false, false, false, false, false, false, false, false, false, false, false, false, false] rfl rfl (by kernel_rfl) (fun _ _ _ h => h) (Or.inl ⟨by rfl, ?_⟩) ?_ ?_
    rotate_left
    · intro w'
      go_simp
      with_reducible rfl
    rotate_left
    · simp only [Act.put, List.setIfInBounds_toArray, List.set_cons_zero, List.set_cons_succ, i64_w, i32_w, e0, e1]
      rfl
    refine pure_ (i := 1) (N := some 39) (v := ?_) (a' := ?_) #[true, true, false, false, false, false, false, false, false, false, false, false, false, false, false, false, false, false] rfl rfl (by kernel_rfl) (fun _ _ _ h => h) (Or.inl ⟨by rfl, ?_⟩) ?_ ?_
    rotate_left
    · intro w'
      go_simp
      with_reducible rfl
    rotate_left
    · simp only [Act.put, List.setIfInBounds_toArray, List.set_cons_zero, List.set_cons_succ, i64_w, i32_w, e0, e1]
      rfl
    refine pure_ (i := 2) (N := some 40) (v := ?_) (a' := ?_) #[true, true, true, false, false, false, false, false, false, false, false, false, false, false, false, false, false, false] rfl rfl (by kernel_rfl) (fun _ _ _ h => h) (Or.inl ⟨by rfl, ?_⟩) ?_ ?_
    rotate_left
    · intro w'
      go_simp
      with_reducible rfl
    rotate_left
    · simp only [Act.put, List.setIfInBounds_toArray, List.set_cons_zero, List.set_cons_succ, i64_w, i32_w, e0, e1]
      rfl
    refine pure_ (i := 3) (N := some 41) (v := ?_) (a' := ?_) #[true, true, true, true, false, false, false, false, false, false, false, false, false, false, false, false, false, false] rfl rfl (by kernel_rfl) (fun _ _ _ h => h) (Or.inl ⟨by rfl, ?_⟩) ?_ ?_
    rotate_left
    · intro w'
      go_simp
      with_reducible rfl
    rotate_left
    · simp only [Act.put, List.setIfInBounds_toArray, List.set_cons_zero, List.set_cons_succ, i64_w, i32_w, e0, e1]
      rfl
    refine pure_ (i := 4) (N := some 42) (v := ?_) (a' := ?_) #[true, true, true, true, true, false, false, false, false, false, false, false, false, false, false, false, false, false] rfl rfl (by kernel_rfl) (fun _ _ _ h => h) (Or.inl ⟨by rfl, ?_⟩) ?_ ?_
    rotate_left
    · intro w'
      go_simp
      with_reducible rfl
    rotate_left
    · simp only [Act.put, List.setIfInBounds_toArray, List.set_cons_zero, List.set_cons_succ, i64_w, i32_w, e0, e1]
      rfl
    refine pure_ (i := 5) (N := some 43) (v := ?_) (a' := ?_) #[true, true, true, true, true, true, false, false, false, false, false, false, false, false, false, false, false, false] rfl rfl (by kernel_rfl) (fun _ _ _ h => h) (Or.inl ⟨by rfl, ?_⟩) ?_ ?_
    rotate_left
    · intro w'
      go_simp
      with_reducible rfl
    rotate_left
    · simp only [Act.put, List.setIfInBounds_toArray, List.set_cons_zero, List.set_cons_succ, i64_w, i32_w, e0, e1]
      rfl
    refine one_ (i := 6) (N := some 44) #[true, true, true, true, true, true, true, false, false, false, false, false, false, false, false, false, false, false] rfl rfl (by kernel_rfl) (by decide) (fun K hK => ?_)
    obtain ⟨s0, s1, s2, s3⟩ := hHeld
    refine goes_ Try.func43 (by kernel_rfl) rfl #[.slice A L c, .slice D L d] (by rfl) rfl rfl (by simp only [List.map_toArray, List.map_cons, List.map_nil]; rfl) ?_
    with_reducible refine (eq43_yes A D L c d b o b' o' F HL.out _ s1 s2).mono ?_
    rintro e w4 ⟨rfl, md, hmd⟩
    refine ⟨_, rfl, ?_⟩
    have hb4 := quietB hmd
    clear hmd md
    have Y0 := Lib.hid (bkBelow s0 hb4)
    have Y1 := Lib.hid (s1.later hb4)
    have Y2 := Lib.hid (s2.later hb4)
    have Y3 := Lib.hid (bdT s3 s3.size hb4)
    clear hb4 s0 s1 s2 s3
    refine hK.out _ _ ⟨Y0.out, Y1.out, Y2.out, Y3.out⟩ (fun hHeld => ?_)
    clear hK K
    refine norm_ (a' := ?_) ?_ ?_
    rotate_left
    · show Act.put _ (some 44) _ = _
      simp only [Act.put, List.setIfInBounds_toArray, List.set_cons_zero, List.set_cons_succ, i64_w, i32_w, e0, e1]
      rfl
    refine pure_ (i := 7) (N := some 45) (v := ?_) (a' := ?_) #[true, true, true, true, true, true, true, true, false, false, false, false, false, false, false, false, false, false] rfl rfl (by kernel_rfl) (fun _ _ _ h => h) (Or.inl ⟨by rfl, ?_⟩) ?_ ?_
    rotate_left
    · intro w'
      go_simp
      with_reducible rfl
    rotate_left
    · simp only [Act.put, List.setIfInBounds_toArray, List.set_cons_zero, List.set_cons_succ, i64_w, i32_w, e0, e1]
      rfl
    refine pure_ (i := 8) (N := some 46) (v := ?_) (a' := ?_) #[true, true, true, true, true, true, true, true, true, false, false, false, false, false, false, false, false, false] rfl rfl (by kernel_rfl) (fun _ _ _ h => h) (Or.inl ⟨by rfl, ?_⟩) ?_ ?_
    rotate_left
    · intro w'
      go_simp
      with_reducible rfl
    rotate_left
    · simp only [Act.put, List.setIfInBounds_toArray, List.set_cons_zero, List.set_cons_succ, i64_w, i32_w, e0, e1]
      rfl
    refine pure_ (i := 9) (N := some 47) (v := ?_) (a' := ?_) #[true, true, true, true, true, true, true, true, true, true, false, false, false, false, false, false, false, false] rfl rfl (by kernel_rfl) (fun _ _ _ h => h) (Or.inl ⟨by rfl, ?_⟩) ?_ ?_
    rotate_left
    · intro w'
      go_simp
      with_reducible rfl
    rotate_left
    · simp only [Act.put, List.setIfInBounds_toArray, List.set_cons_zero, List.set_cons_succ, i64_w, i32_w, e0, e1]
      rfl
    refine pure_ (i := 12) (N := some 50) (v := ?_) (a' := ?_) #[true, true, true, true, true, true, true, true, true, true, false, false, true, false, false, false, false, false] rfl rfl (by kernel_rfl) (fun _ _ _ h => h) (Or.inl ⟨by rfl, ?_⟩) ?_ ?_
    rotate_left
    · intro w'
      go_simp
      with_reducible rfl
    rotate_left
    · simp only [Act.put, List.setIfInBounds_toArray, List.set_cons_zero, List.set_cons_succ, i64_w, i32_w, e0, e1]
      rfl
    refine take_ (i := 10) (N := some 48) (v := ?_) (a' := ?_) #[true, true, true, true, true, true, true, true, true, true, true, false, true, false, false, false, false, false] rfl rfl (by kernel_rfl) (fun _ _ _ h => h) (Or.inl ⟨by rfl, ?_⟩) hHeld ?_ ?_
    rotate_left
    · rintro w' ⟨s0, s1, s2, s3⟩
      refine exec_load_pt (.tmp 47) ?_ (w.heap.size) ?_ p (note_range s0) <;> rfl
    rotate_left
    · simp only [Act.put, List.setIfInBounds_toArray, List.set_cons_zero, List.set_cons_succ, i64_w, i32_w, e0, e1]
      rfl
    refine take_ (i := 13) (N := some 51) (v := ?_) (a' := ?_) #[true, true, true, true, true, true, true, true, true, true, true, false, true, true, false, false, false, false] rfl rfl (by kernel_rfl) (fun _ _ _ h => h) (Or.inl ⟨by rfl, ?_⟩) hHeld ?_ ?_
    rotate_left
    · rintro w' ⟨s0, s1, s2, s3⟩
      refine exec_load_pt (.tmp 50) ?_ (w.heap.size) ?_ p (note_range s0) <;> rfl
    rotate_left
    · simp only [Act.put, List.setIfInBounds_toArray, List.set_cons_zero, List.set_cons_succ, i64_w, i32_w, e0, e1]
      rfl
    refine one_ (i := 11) (N := some 49) #[true, true, true, true, true, true, true, true, true, true, true, true, true, true, false, false, false, false] rfl rfl (by kernel_rfl) (by decide) (fun K hK => ?_)
    obtain ⟨s0, s1, s2, s3⟩ := hHeld
    refine goes_ Try.func44 (by kernel_rfl) rfl #[.agg p.cs] (by rfl) rfl rfl (by simp only [List.map_toArray, List.map_cons, List.map_nil]; rfl) ?_
    with_reducible refine (vp_any p _).mono ?_
    rintro e w4 ⟨rfl, hb4⟩
    refine ⟨_, rfl, ?_⟩
    have Y0 := Lib.hid (bkBelow s0 hb4)
    have Y1 := Lib.hid (s1.later hb4)
    have Y2 := Lib.hid (s2.later hb4)
    have Y3 := Lib.hid (bdT s3 s3.size hb4)
    clear hb4 s0 s1 s2 s3
    refine hK.out _ _ ⟨Y0.out, Y1.out, Y2.out, Y3.out⟩ (fun hHeld => ?_)
    clear hK K
    refine norm_ (a' := ?_) ?_ ?_
    rotate_left
    · show Act.put _ (some 49) _ = _
      simp only [Act.put, List.setIfInBounds_toArray, List.set_cons_zero, List.set_cons_succ, i64_w, i32_w, e0, e1]
      rfl
    refine one_ (i := 14) (N := some 52) #[true, true, true, true, true, true, true, true, true, true, true, true, true, true, true, false, false, false] rfl rfl (by kernel_rfl) (by decide) (fun K hK => ?_)
    obtain ⟨s0, s1, s2, s3⟩ := hHeld
    refine goes_ Try.func45 (by kernel_rfl) rfl #[.agg p.cs] (by rfl) rfl rfl (by simp only [List.map_toArray, List.map_cons, List.map_nil]; rfl) ?_
    with_reducible refine (rvp_any p _).mono ?_
    rintro e w4 ⟨rfl, hb4⟩
    refine ⟨_, rfl, ?_⟩
    have Y0 := Lib.hid (bkBelow s0 hb4)
    have Y1 := Lib.hid (s1.later hb4)
    have Y2 := Lib.hid (s2.later hb4)
    have Y3 := Lib.hid (bdT s3 s3.size hb4)
    clear hb4 s0 s1 s2 s3
    refine hK.out _ _ ⟨Y0.out, Y1.out, Y2.out, Y3.out⟩ (fun hHeld => ?_)
    clear hK K
    refine norm_ (a' := ?_) ?_ ?_
    rotate_left
    · show Act.put _ (some 52) _ = _
      simp only [Act.put, List.setIfInBounds_toArray, List.set_cons_zero, List.set_cons_succ, i64_w, i32_w, e0, e1]
      rfl
    refine pure_ (i := 15) (N := some 53) (v := ?_) (a' := ?_) #[true, true, true, true, true, true, true, true, true, true, true, true, true, true, true, true, false, false] rfl rfl (by kernel_rfl) (fun _ _ _ h => h) (Or.inl ⟨by rfl, ?_⟩) ?_ ?_
    rotate_left
    · intro w'
      go_simp
      with_reducible rfl
    rotate_left
    · simp only [Act.put, List.setIfInBounds_toArray, List.set_cons_zero, List.set_cons_succ, i64_w, i32_w, e0, e1]
      rfl
    refine pure_ (i := 16) (N := some 54) (v := ?_) (a' := ?_) #[true, true, true, true, true, true, true, true, true, true, true, true, true, true, true, true, true, false] rfl rfl (by kernel_rfl) (fun _ _ _ h => h) (Or.inl ⟨by rfl, ?_⟩) ?_ ?_
    rotate_left
    · intro w'
      go_simp
      with_reducible rfl
    rotate_left
    · simp only [Act.put, List.setIfInBounds_toArray, List.set_cons_zero, List.set_cons_succ, i64_w, i32_w, e0, e1]
      rfl
    refine pure_ (i := 17) (N := some 2) (v := ?_) (a' := ?_) #[true, true, true, true, true, true, true, true, true, true, true, true, true, true, true, true, true, true] rfl rfl (by kernel_rfl) (fun _ _ _ h => h) (Or.inl ⟨by rfl, ?_⟩) ?_ ?_
    rotate_left
    · intro w'
      go_simp
      with_reducible rfl
    rotate_left
    · simp only [Act.put, List.setIfInBounds_toArray, List.set_cons_zero, List.set_cons_succ, i64_w, i32_w, e0, e1]
      rfl
    refine done_ (by kernel_rfl) ?_
    go_wp2
    go_ret
    exact ⟨rfl, hHeld.2.2.2⟩
def opsOf (a b c d : OP) (i : Nat) : OP := if i = 0 then a else if i = 1 then b else if i = 2 then c else d
theorem opq (al fb : Int) (a b c d : OP) (i : Nat) (h : 4 ≤ i) : (RP.mk al fb (opsOf a b c d)).pt.o i = (RP.mk al fb (opsOf a b c d)).pt.o 3 := by
  show opsOf a b c d i = opsOf a b c d 3
  unfold opsOf
  rw [if_neg (by omega), if_neg (by omega), if_neg (by omega)]
  rfl
theorem sound_lit (x0 x1 x2 x3 x4 x5 x6 x7 x8 x9 x10 x11 x12 x13 x14 x15 x16 x17 x18 x19 x20 x21 x22 x23 x24 x25 x26 x27 x28 x29 : Int) (w : World) : Calls Try.prog 6 #[.agg #[iv x0, iv x1, iv x2, iv x3, iv x4, iv x5, iv x6, iv x7, iv x8, iv x9, iv x10, iv x11, iv x12, iv x13, iv x14, iv x15, iv x16, iv x17, iv x18, iv x19, iv x20, iv x21, iv x22, iv x23, iv x24, iv x25, iv x26, iv x27, iv x28, iv x29]] w fun e w' => e = .returned (.bool true) ∧ Below w.heap.size w w' := by
  have e : note ⟨x0, x1, opsOf ⟨x2, x3, x4, x5, x6, x7⟩ ⟨x8, x9, x10, x11, x12, x13⟩ ⟨x14, x15, x16, x17, x18, x19⟩ ⟨x20, x21, x22, x23, x24, x25⟩⟩ x26 x27 x28 x29 = #[iv x0, iv x1, iv x2, iv x3, iv x4, iv x5, iv x6, iv x7, iv x8, iv x9, iv x10, iv x11, iv x12, iv x13, iv x14, iv x15, iv x16, iv x17, iv x18, iv x19, iv x20, iv x21, iv x22, iv x23, iv x24, iv x25, iv x26, iv x27, iv x28, iv x29] := by kernel_rfl
  have h := sound_law ⟨x0, x1, opsOf ⟨x2, x3, x4, x5, x6, x7⟩ ⟨x8, x9, x10, x11, x12, x13⟩ ⟨x14, x15, x16, x17, x18, x19⟩ ⟨x20, x21, x22, x23, x24, x25⟩⟩ x26 x27 x28 x29 (opq _ _ _ _ _ _) w
  rw [e] at h
  exact h
end Go.Proofs.Ytfodpoccjdaaaaa.CS

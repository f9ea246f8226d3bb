/- Written by a program of this session (wip/tools/xprint.py, over the functions of the kit's print): functions of the given program as Lean functions, each with its contract, or a law's row; no condition. -/
import Derived.Test.YtmoomdmdcjokgaaPGx0
import Derived.Test.YtmoomdmdcjokgaaPGxf14
import Derived.Test.YtmoomdmdcjokgaaPGxf8
import Derived.Test.YtmoomdmdcjokgaaPGxf17
import Derived.Test.YtmoomdmdcjokgaaPGxf15
import Derived.Test.YtmoomdmdcjokgaaPGxf16
namespace Go.Proofs.Ytmoomdmdcjokgaa.PG
open Go.RowKit Go.Proofs.YtmoomdmdcjokgaaW.PrintWords Go.Proofs.YtmoomdmdcjokgaaW.PrintLast Go.Proofs.YtmoomdmdcjokgaaW.PrintMore
attribute [local go_sem] max2_int min2_int max_two min_two max_three min_three max_four min_four   -- for this text's walks alone
set_option linter.unusedVariables false
set_option linter.unusedSimpArgs false

/-! ### orchestrionlaw01_ToneNames: function 6 -/
mutual
def orchestrionlaw01_ToneNames.j0 : Nat → Int → ByteArray → Bool → Option (Bool)
  | 0, _, _, _ => none
  | k + 1, x0, x9, x37 => if x37 = true then (some false) else ((tone_Note.f k x9).bind fun bt107 => (if x0 ≥ 0 then (orchestrionlaw01_ToneNames.j1 k x0 x9 bt107.1 bt107.2 (decide (x0 < 120))) else (orchestrionlaw01_ToneNames.j1 k x0 x9 bt107.1 bt107.2 false)))
def orchestrionlaw01_ToneNames.j1 : Nat → Int → ByteArray → Int → Int → Bool → Option (Bool)
  | 0, _, _, _, _, _ => none
  | k + 1, x0, x9, x10, x11, x48 => if x48 = true then (if x10 = x0 then (if x11 = 0 then ((orchestrionlaw01_awake.f k).bind fun t109 => (some t109)) else (some false)) else (some false)) else (if x9.toList = ([] : List UInt8) then (if x11 = 10 then ((orchestrionlaw01_awake.f k).bind fun t110 => (some t110)) else (some false)) else (some false))
end
def orchestrionlaw01_ToneNames.f (k : Nat) (a0 : Int) (a1 : ByteArray) : Option (Bool) := (tone_Note.f k a1).bind fun bt101 => ((orchestrionref01_Note.f k a1).bind fun bt103 => ((tone_Name.f a0).bind fun t105 => (if bt101.1 = bt103.1 then (if bt101.2 = bt103.2 then ((orchestrionref01_Name.f a0).bind fun t106 => (orchestrionlaw01_ToneNames.j0 k a0 t105 (t105.toList != t106.toList))) else (orchestrionlaw01_ToneNames.j0 k a0 t105 true)) else (orchestrionlaw01_ToneNames.j0 k a0 t105 true))))
theorem orchestrionlaw01_ToneNames.mono_l : ∀ k, (∀ y0 y1 y2, LeO (orchestrionlaw01_ToneNames.j0 k y0 y1 y2) (orchestrionlaw01_ToneNames.j0 (k + 1) y0 y1 y2)) ∧ (∀ y0 y1 y2 y3 y4, LeO (orchestrionlaw01_ToneNames.j1 k y0 y1 y2 y3 y4) (orchestrionlaw01_ToneNames.j1 (k + 1) y0 y1 y2 y3 y4))
  | 0 => ⟨fun _ _ _ r h => (nomatch (show none = some r from h)), fun _ _ _ _ _ r h => (nomatch (show none = some r from h))⟩
  | k + 1 => by
    obtain ⟨ih0, ih1⟩ := orchestrionlaw01_ToneNames.mono_l k
    refine ⟨?_, ?_⟩
    · intro y0 y1 y2
      unfold orchestrionlaw01_ToneNames.j0
      repeat' first
      | (with_reducible exact ih0 _ _ _)
      | (with_reducible exact ih1 _ _ _ _ _)
      | (with_reducible exact orchestrionlaw01_awake.mono _)
      | (with_reducible exact orchestrionref01_Note.mono _ _)
      | (with_reducible exact tone_Note.mono _ _)
      | (with_reducible exact LeO.refl _)
      | (with_reducible exact LeO.none _)
      | (with_reducible refine LeO.ite ?_ ?_)
      | (with_reducible refine LeO.bind ?_ (fun _ => ?_))
      | exact ih0 _ _ _
      | exact ih1 _ _ _ _ _
      | exact orchestrionlaw01_awake.mono _
      | exact orchestrionref01_Note.mono _ _
      | exact tone_Note.mono _ _
      | exact LeO.none _
      | refine LeO.ite ?_ ?_
      | refine LeO.bind ?_ (fun _ => ?_)
    · intro y0 y1 y2 y3 y4
      unfold orchestrionlaw01_ToneNames.j1
      repeat' first
      | (with_reducible exact ih0 _ _ _)
      | (with_reducible exact ih1 _ _ _ _ _)
      | (with_reducible exact orchestrionlaw01_awake.mono _)
      | (with_reducible exact orchestrionref01_Note.mono _ _)
      | (with_reducible exact tone_Note.mono _ _)
      | (with_reducible exact LeO.refl _)
      | (with_reducible exact LeO.none _)
      | (with_reducible refine LeO.ite ?_ ?_)
      | (with_reducible refine LeO.bind ?_ (fun _ => ?_))
      | exact ih0 _ _ _
      | exact ih1 _ _ _ _ _
      | exact orchestrionlaw01_awake.mono _
      | exact orchestrionref01_Note.mono _ _
      | exact tone_Note.mono _ _
      | exact LeO.none _
      | refine LeO.ite ?_ ?_
      | refine LeO.bind ?_ (fun _ => ?_)
theorem orchestrionlaw01_ToneNames.mono : ∀ a0 a1 k, LeO (orchestrionlaw01_ToneNames.f k a0 a1) (orchestrionlaw01_ToneNames.f (k + 1) a0 a1) := by
  intro a0 a1 k
  obtain ⟨ih0, ih1⟩ := orchestrionlaw01_ToneNames.mono_l k
  unfold orchestrionlaw01_ToneNames.f
  repeat' first
      | (with_reducible exact ih0 _ _ _)
      | (with_reducible exact ih1 _ _ _ _ _)
      | (with_reducible exact orchestrionlaw01_awake.mono _)
      | (with_reducible exact orchestrionref01_Note.mono _ _)
      | (with_reducible exact tone_Note.mono _ _)
      | (with_reducible exact LeO.refl _)
      | (with_reducible exact LeO.none _)
      | (with_reducible refine LeO.ite ?_ ?_)
      | (with_reducible refine LeO.bind ?_ (fun _ => ?_))
      | exact ih0 _ _ _
      | exact ih1 _ _ _ _ _
      | exact orchestrionlaw01_awake.mono _
      | exact orchestrionref01_Note.mono _ _
      | exact tone_Note.mono _ _
      | exact LeO.none _
      | refine LeO.ite ?_ ?_
      | refine LeO.bind ?_ (fun _ => ?_)
set_option maxHeartbeats 8000000 in
set_option maxRecDepth 100000 in
theorem orchestrionlaw01_ToneNames.calls (k : Nat) (a0 : Int) (a1 : ByteArray) (r : Bool) (w : World) (h : orchestrionlaw01_ToneNames.f k a0 a1 = some r) :
    Calls Try.prog 6 #[.int .i64 a0, .string a1] w fun e w' => e = .returned (.bool r) ∧ Below w.heap.size w w' := by
  have HB := Aside0.mk (Below.refl w.heap.size w)
  have H : ((tone_Note.f k a1).bind fun bt101 => ((orchestrionref01_Note.f k a1).bind fun bt103 => ((tone_Name.f a0).bind fun t105 => (if bt101.1 = bt103.1 then (if bt101.2 = bt103.2 then ((orchestrionref01_Name.f a0).bind fun t106 => (orchestrionlaw01_ToneNames.j0 k a0 t105 (t105.toList != t106.toList))) else (orchestrionlaw01_ToneNames.j0 k a0 t105 true)) else (orchestrionlaw01_ToneNames.j0 k a0 t105 true))))) = some r := h
  clear h
  replace H := Option.bind_eq_some_iff.mp H
  obtain ⟨⟨t101, t102⟩, A30, H⟩ := H
  replace H : ((orchestrionref01_Note.f k a1).bind fun bt103 => ((tone_Name.f a0).bind fun t105 => (if t101 = bt103.1 then (if t102 = bt103.2 then ((orchestrionref01_Name.f a0).bind fun t106 => (orchestrionlaw01_ToneNames.j0 k a0 t105 (t105.toList != t106.toList))) else (orchestrionlaw01_ToneNames.j0 k a0 t105 true)) else (orchestrionlaw01_ToneNames.j0 k a0 t105 true)))) = some r := H
  have A3 := Aside0.mk A30
  clear A30
  replace H := Option.bind_eq_some_iff.mp H
  obtain ⟨⟨t103, t104⟩, A40, H⟩ := H
  replace H : ((tone_Name.f a0).bind fun t105 => (if t101 = t103 then (if t102 = t104 then ((orchestrionref01_Name.f a0).bind fun t106 => (orchestrionlaw01_ToneNames.j0 k a0 t105 (t105.toList != t106.toList))) else (orchestrionlaw01_ToneNames.j0 k a0 t105 true)) else (orchestrionlaw01_ToneNames.j0 k a0 t105 true))) = some r := H
  have A4 := Aside0.mk A40
  clear A40
  replace H := Option.bind_eq_some_iff.mp H
  obtain ⟨t105, A50, H⟩ := H
  replace H : (if t101 = t103 then (if t102 = t104 then ((orchestrionref01_Name.f a0).bind fun t106 => (orchestrionlaw01_ToneNames.j0 k a0 t105 (t105.toList != t106.toList))) else (orchestrionlaw01_ToneNames.j0 k a0 t105 true)) else (orchestrionlaw01_ToneNames.j0 k a0 t105 true)) = some r := H
  have A5 := Aside0.mk A50
  clear A50
  have HC6 := Aside0.mk H
  clear H
  go_enter Try.func6, Try.ntmps6
  go_upto_region 4 with (first | ((with_reducible refine gate_callee (f := 14) rfl ?_); refine goesL_ (some 14) rfl rfl Try.func14 (by kernel_rfl) rfl #[.string a1] rfl (by (try simp only [List.map_toArray, List.map_cons, List.map_nil]); first | done | rfl | (simp only [List.length_drop, List.length_take]; rfl)) ?_; (with_reducible refine (tone_Note.calls k a1 t101 t102 _ A3.out).mono ?_); rintro e w7 ⟨rfl, hb⟩; refine ⟨_, rfl, ?_⟩; have n0_ := Aside0.mk (below_step (by repeat (first | (with_reducible first | exact HB.out | apply below_alloc | apply pw_below_drewN | apply below_drew1) | exact HB.out)) hb); clear HB; have HB := n0_; clear n0_; (try clear hb); (try clear hb2); (try clear hk); (try clear hi)) | ((with_reducible refine gate_callee (f := 15) rfl ?_); refine goesL_ (some 19) rfl rfl Try.func15 (by kernel_rfl) rfl #[.string a1] rfl (by (try simp only [List.map_toArray, List.map_cons, List.map_nil]); first | done | rfl | (simp only [List.length_drop, List.length_take]; rfl)) ?_; (with_reducible refine (orchestrionref01_Note.calls k a1 t103 t104 _ A4.out).mono ?_); rintro e w8 ⟨rfl, hb⟩; refine ⟨_, rfl, ?_⟩; have n0_ := Aside0.mk (below_step (by repeat (first | (with_reducible first | exact HB.out | apply below_alloc | apply pw_below_drewN | apply below_drew1) | exact HB.out)) hb); clear HB; have HB := n0_; clear n0_; (try clear hb); (try clear hb2); (try clear hk); (try clear hi)) | ((with_reducible refine gate_callee (f := 16) rfl ?_); refine goesL_ (some 23) rfl rfl Try.func16 (by kernel_rfl) rfl #[.int .i64 a0] rfl (by (try simp only [List.map_toArray, List.map_cons, List.map_nil]); first | done | rfl | (simp only [List.length_drop, List.length_take]; rfl)) ?_; (with_reducible refine (tone_Name.calls a0 t105 _ A5.out).mono ?_); rintro e w9 ⟨rfl, hb⟩; refine ⟨_, rfl, ?_⟩; have n0_ := Aside0.mk (below_step (by repeat (first | (with_reducible first | exact HB.out | apply below_alloc | apply pw_below_drewN | apply below_drew1) | exact HB.out)) hb); clear HB; have HB := n0_; clear n0_; (try clear hb); (try clear hb2); (try clear hk); (try clear hi)))
  (try simp only [Act.put, List.setIfInBounds_toArray, List.set_cons_zero, List.set_cons_succ])
  go_cut [37] (fun v37 wc => ∃ (kq : Nat) (x37_5 : Bool), v37 = .bool x37_5 ∧ Aside0 (orchestrionlaw01_ToneNames.j0 kq a0 t105 x37_5 = some r) ∧ Aside0 (kq ≤ k) ∧ Aside0 (Below w.heap.size w wc))
  case first =>
    have H := HC6.out
    clear HC6
    by_cases c10 : t101 = t103
    · rw [if_pos c10] at H
      have c10b0 : (t101 == t103) = true := beq_iff_eq.mpr c10
      have c10b1 : (t101 != t103) = false := bne_eq_false_iff_eq.mpr c10
      clear c10
      (first | rw [c10b0] | (simp only [i64_w, i32_w]; rw [c10b0]) | skip)
      by_cases c11 : t102 = t104
      · rw [if_pos c11] at H
        have c11b0 : (t102 == t104) = true := beq_iff_eq.mpr c11
        have c11b1 : (t102 != t104) = false := bne_eq_false_iff_eq.mpr c11
        clear c11
        replace H := Option.bind_eq_some_iff.mp H
        obtain ⟨t106, A120, H⟩ := H
        replace H : (orchestrionlaw01_ToneNames.j0 k a0 t105 (t105.toList != t106.toList)) = some r := H
        have A12 := Aside0.mk A120
        clear A120
        have H' := Aside0.mk H
        clear H
        go_wp2_with (first | (go_at_call 17; (with_reducible refine (orchestrionref01_Name.calls a0 t106 _ A12.out).mono ?_); rintro e w13 ⟨rfl, hb⟩; have n0_ := Aside0.mk (below_step (by repeat (first | (with_reducible first | exact HB.out | apply below_alloc | apply pw_below_drewN | apply below_drew1) | exact HB.out)) hb); clear HB; have HB := n0_; clear n0_; (try clear hb); (try clear hb2); (try clear hk); (try clear hi)))
        go_meet
        case rel => exact ⟨_, ((t105.toList != t106.toList)), (by first | rfl | (simp; done) | (simp [*]; done)), H', ⟨by first | omega | exact Nat.le_refl _⟩, ⟨by repeat (first | (with_reducible first | exact HB.out | apply below_alloc | apply pw_below_drewN | apply below_drew1) | exact HB.out)⟩⟩
      · rw [if_neg c11] at H
        have c11b0 : (t102 == t104) = false := beq_eq_false_iff_ne.mpr c11
        have c11b1 : (t102 != t104) = true := bne_iff_ne.mpr c11
        have H' := Aside0.mk H
        clear H
        go_wp2
        go_meet
        case rel => exact ⟨_, (true), (by first | rfl | (simp; done) | (simp [*]; done)), H', ⟨by first | omega | exact Nat.le_refl _⟩, ⟨by repeat (first | (with_reducible first | exact HB.out | apply below_alloc | apply pw_below_drewN | apply below_drew1) | exact HB.out)⟩⟩
    · rw [if_neg c10] at H
      have c10b0 : (t101 == t103) = false := beq_eq_false_iff_ne.mpr c10
      have c10b1 : (t101 != t103) = true := bne_iff_ne.mpr c10
      (first | rw [c10b0] | (simp only [i64_w, i32_w]; rw [c10b0]) | skip)
      have H' := Aside0.mk H
      clear H
      go_wp2
      go_meet
      case rel => exact ⟨_, (true), (by first | rfl | (simp; done) | (simp [*]; done)), H', ⟨by first | omega | exact Nat.le_refl _⟩, ⟨by repeat (first | (with_reducible first | exact HB.out | apply below_alloc | apply pw_below_drewN | apply below_drew1) | exact HB.out)⟩⟩
  case rest =>
    clear HC6
    try clear c1
    try clear p2
    try clear c6
    try clear c10
    try clear c10b0
    try clear c10b1
    try clear c11
    try clear c11b0
    try clear c11b1
    obtain ⟨kq, x37_5, rfl, HA, HJ5, HB⟩ := hcut
    cases kq with
    | zero => exact nomatch (show none = some _ from HA.out)
    | succ kj5 =>
      have H := HA.out
      clear HA
      simp only [orchestrionlaw01_ToneNames.j0] at H
      by_cases c14 : x37_5 = true
      · subst c14
        have H1 : (some false) = some r := by rw [if_pos rfl] at H; exact H
        clear H
        have H := H1
        clear H1
        obtain rfl := Option.some.inj H
        go_wp2
        go_ret
        exact ⟨by first | rfl | (simp [errW_none, errW_some] <;> rfl) | (simp [*, errW_none, errW_some] <;> rfl), by repeat (first | (with_reducible first | exact HB.out | apply below_alloc | apply pw_below_drewN | apply below_drew1) | exact HB.out)⟩
      · replace c14 := Bool.eq_false_iff.mpr c14
        subst c14
        have H1 : ((tone_Note.f kj5 t105).bind fun bt107 => (if a0 ≥ 0 then (orchestrionlaw01_ToneNames.j1 kj5 a0 t105 bt107.1 bt107.2 (decide (a0 < 120))) else (orchestrionlaw01_ToneNames.j1 kj5 a0 t105 bt107.1 bt107.2 false))) = some r := by rw [if_neg (show ¬ (false = true) by decide)] at H; exact H
        clear H
        have H := H1
        clear H1
        replace H := Option.bind_eq_some_iff.mp H
        obtain ⟨⟨t107, t108⟩, A150, H⟩ := H
        replace H : (if a0 ≥ 0 then (orchestrionlaw01_ToneNames.j1 kj5 a0 t105 t107 t108 (decide (a0 < 120))) else (orchestrionlaw01_ToneNames.j1 kj5 a0 t105 t107 t108 false)) = some r := H
        have A15 := Aside0.mk A150
        clear A150
        have HC16 := Aside0.mk H
        clear H
        go_upto_region 7 with (first | ((with_reducible refine gate_callee (f := 14) rfl ?_); refine goesL_ (some 40) rfl rfl Try.func14 (by kernel_rfl) rfl #[.string t105] rfl (by (try simp only [List.map_toArray, List.map_cons, List.map_nil]); first | done | rfl | (simp only [List.length_drop, List.length_take]; rfl)) ?_; (with_reducible refine (tone_Note.calls kj5 t105 t107 t108 _ A15.out).mono ?_); rintro e w17 ⟨rfl, hb⟩; refine ⟨_, rfl, ?_⟩; have n0_ := Aside0.mk (below_step (by repeat (first | (with_reducible first | exact HB.out | apply below_alloc | apply pw_below_drewN | apply below_drew1) | exact HB.out)) hb); clear HB; have HB := n0_; clear n0_; (try clear hb); (try clear hb2); (try clear hk); (try clear hi)))
        (try simp only [Act.put, List.setIfInBounds_toArray, List.set_cons_zero, List.set_cons_succ])
        go_cut [48] (fun v48 wc => ∃ (kq : Nat) (x48_15 : Bool), v48 = .bool x48_15 ∧ Aside0 (orchestrionlaw01_ToneNames.j1 kq a0 t105 t107 t108 x48_15 = some r) ∧ Aside0 (kq ≤ kj5) ∧ Aside0 (Below w.heap.size w wc))
        case first =>
          have H := HC16.out
          clear HC16
          by_cases c18 : a0 ≥ 0
          · rw [if_pos c18] at H
            have c18b0 : decide (0 ≤ a0) = true := decide_eq_true c18
            clear c18
            (first | rw [c18b0] | (simp only [i64_w, i32_w]; rw [c18b0]) | skip)
            have H' := Aside0.mk H
            clear H
            go_wp2
            go_meet
            case rel => exact ⟨_, (decide (a0 < 120)), (by first | rfl | (simp; done) | (simp [*]; done)), H', ⟨by have := HJ5.out; first | omega | exact Nat.le_refl _⟩, ⟨by repeat (first | (with_reducible first | exact HB.out | apply below_alloc | apply pw_below_drewN | apply below_drew1) | exact HB.out)⟩⟩
          · rw [if_neg c18] at H
            have c18b0 : decide (0 ≤ a0) = false := decide_eq_false c18
            clear c18
            (first | rw [c18b0] | (simp only [i64_w, i32_w]; rw [c18b0]) | skip)
            have H' := Aside0.mk H
            clear H
            go_wp2
            go_meet
            case rel => exact ⟨_, (false), (by first | rfl | (simp; done) | (simp [*]; done)), H', ⟨by have := HJ5.out; first | omega | exact Nat.le_refl _⟩, ⟨by repeat (first | (with_reducible first | exact HB.out | apply below_alloc | apply pw_below_drewN | apply below_drew1) | exact HB.out)⟩⟩
        case rest =>
          clear HC16
          try clear c1
          try clear p2
          try clear c6
          try clear c10
          try clear c10b0
          try clear c10b1
          try clear c11
          try clear c11b0
          try clear c11b1
          try clear c14
          try clear c15
          try clear c16
          try clear c18
          try clear c18b0
          try clear p2
          obtain ⟨kq, x48_15, rfl, HA, HJ15, HB⟩ := hcut
          cases kq with
          | zero => exact nomatch (show none = some _ from HA.out)
          | succ kj15 =>
            have H := HA.out
            clear HA
            simp only [orchestrionlaw01_ToneNames.j1] at H
            by_cases c19 : x48_15 = true
            · subst c19
              have H1 : (if t107 = a0 then (if t108 = 0 then ((orchestrionlaw01_awake.f kj15).bind fun t109 => (some t109)) else (some false)) else (some false)) = some r := by rw [if_pos rfl] at H; exact H
              clear H
              have H := H1
              clear H1
              by_cases c20 : t107 = a0
              · rw [if_pos c20] at H
                have c20b0 : (t107 == a0) = true := beq_iff_eq.mpr c20
                have c20b1 : (t107 != a0) = false := bne_eq_false_iff_eq.mpr c20
                clear c20
                by_cases c21 : t108 = 0
                · rw [if_pos c21] at H
                  have c21b0 : (t108 == 0) = true := beq_iff_eq.mpr c21
                  have c21b1 : (t108 != 0) = false := bne_eq_false_iff_eq.mpr c21
                  clear c21
                  replace H := Option.bind_eq_some_iff.mp H
                  obtain ⟨t109, A220, H⟩ := H
                  replace H : (some t109) = some r := H
                  have A22 := Aside0.mk A220
                  clear A220
                  obtain rfl := Option.some.inj H
                  go_wp2_with (first | (go_at_call 8; (with_reducible refine (orchestrionlaw01_awake.calls kj15  t109 _ A22.out).mono ?_); rintro e w23 ⟨rfl, hb⟩; have n0_ := Aside0.mk (below_step (by repeat (first | (with_reducible first | exact HB.out | apply below_alloc | apply pw_below_drewN | apply below_drew1) | exact HB.out)) hb); clear HB; have HB := n0_; clear n0_; (try clear hb); (try clear hb2); (try clear hk); (try clear hi)))
                  go_ret
                  exact ⟨by first | rfl | (simp [errW_none, errW_some] <;> rfl) | (simp [*, errW_none, errW_some] <;> rfl), by repeat (first | (with_reducible first | exact HB.out | apply below_alloc | apply pw_below_drewN | apply below_drew1) | exact HB.out)⟩
                · rw [if_neg c21] at H
                  have c21b0 : (t108 == 0) = false := beq_eq_false_iff_ne.mpr c21
                  have c21b1 : (t108 != 0) = true := bne_iff_ne.mpr c21
                  obtain rfl := Option.some.inj H
                  go_wp2
                  go_ret
                  exact ⟨by first | rfl | (simp [errW_none, errW_some] <;> rfl) | (simp [*, errW_none, errW_some] <;> rfl), by repeat (first | (with_reducible first | exact HB.out | apply below_alloc | apply pw_below_drewN | apply below_drew1) | exact HB.out)⟩
              · rw [if_neg c20] at H
                have c20b0 : (t107 == a0) = false := beq_eq_false_iff_ne.mpr c20
                have c20b1 : (t107 != a0) = true := bne_iff_ne.mpr c20
                obtain rfl := Option.some.inj H
                go_wp2
                go_ret
                exact ⟨by first | rfl | (simp [errW_none, errW_some] <;> rfl) | (simp [*, errW_none, errW_some] <;> rfl), by repeat (first | (with_reducible first | exact HB.out | apply below_alloc | apply pw_below_drewN | apply below_drew1) | exact HB.out)⟩
            · replace c19 := Bool.eq_false_iff.mpr c19
              subst c19
              have H1 : (if t105.toList = ([] : List UInt8) then (if t108 = 10 then ((orchestrionlaw01_awake.f kj15).bind fun t110 => (some t110)) else (some false)) else (some false)) = some r := by rw [if_neg (show ¬ (false = true) by decide)] at H; exact H
              clear H
              have H := H1
              clear H1
              by_cases c24 : t105.toList = ([] : List UInt8)
              · rw [if_pos c24] at H
                have c24b0 : (t105.toList == ([] : List UInt8)) = true := beq_iff_eq.mpr c24
                have c24b1 : (t105.toList != ([] : List UInt8)) = false := bne_eq_false_iff_eq.mpr c24
                clear c24
                by_cases c25 : t108 = 10
                · rw [if_pos c25] at H
                  have c25b0 : (t108 == 10) = true := beq_iff_eq.mpr c25
                  have c25b1 : (t108 != 10) = false := bne_eq_false_iff_eq.mpr c25
                  clear c25
                  replace H := Option.bind_eq_some_iff.mp H
                  obtain ⟨t110, A260, H⟩ := H
                  replace H : (some t110) = some r := H
                  have A26 := Aside0.mk A260
                  clear A260
                  obtain rfl := Option.some.inj H
                  go_wp2_with (first | (go_at_call 8; (with_reducible refine (orchestrionlaw01_awake.calls kj15  t110 _ A26.out).mono ?_); rintro e w27 ⟨rfl, hb⟩; have n0_ := Aside0.mk (below_step (by repeat (first | (with_reducible first | exact HB.out | apply below_alloc | apply pw_below_drewN | apply below_drew1) | exact HB.out)) hb); clear HB; have HB := n0_; clear n0_; (try clear hb); (try clear hb2); (try clear hk); (try clear hi)))
                  go_ret
                  exact ⟨by first | rfl | (simp [errW_none, errW_some] <;> rfl) | (simp [*, errW_none, errW_some] <;> rfl), by repeat (first | (with_reducible first | exact HB.out | apply below_alloc | apply pw_below_drewN | apply below_drew1) | exact HB.out)⟩
                · rw [if_neg c25] at H
                  have c25b0 : (t108 == 10) = false := beq_eq_false_iff_ne.mpr c25
                  have c25b1 : (t108 != 10) = true := bne_iff_ne.mpr c25
                  obtain rfl := Option.some.inj H
                  go_wp2
                  go_ret
                  exact ⟨by first | rfl | (simp [errW_none, errW_some] <;> rfl) | (simp [*, errW_none, errW_some] <;> rfl), by repeat (first | (with_reducible first | exact HB.out | apply below_alloc | apply pw_below_drewN | apply below_drew1) | exact HB.out)⟩
              · rw [if_neg c24] at H
                have c24b0 : (t105.toList == ([] : List UInt8)) = false := beq_eq_false_iff_ne.mpr c24
                have c24b1 : (t105.toList != ([] : List UInt8)) = true := bne_iff_ne.mpr c24
                obtain rfl := Option.some.inj H
                go_wp2
                go_ret
                exact ⟨by first | rfl | (simp [errW_none, errW_some] <;> rfl) | (simp [*, errW_none, errW_some] <;> rfl), by repeat (first | (with_reducible first | exact HB.out | apply below_alloc | apply pw_below_drewN | apply below_drew1) | exact HB.out)⟩

/-- THE ONE PURE STATEMENT of orchestrionlaw01_ToneNames: yours. -/
def orchestrionlaw01_ToneNames.Pure : Prop := ∀ (a0 : Int) (a1 : ByteArray), (Lit.int .i64 a0).wf = true → a1.size ≤ 140737488351232 → ∃ k, orchestrionlaw01_ToneNames.f k a0 a1 = some true
theorem orchestrionlaw01_ToneNames.walk (P : orchestrionlaw01_ToneNames.Pure) (a0 : Int) (a1 : ByteArray) (w : World) (w0 : (Lit.int .i64 a0).wf = true) (w1 : a1.size ≤ 140737488351232) :
    Calls Try.prog 6 #[.int .i64 a0, .string a1] w fun e w' => e = .returned (.bool true) ∧ Below w.heap.size w w' := by
  obtain ⟨k, h⟩ := P a0 a1 w0 w1
  refine (orchestrionlaw01_ToneNames.calls k a0 a1 true w h).mono ?_
  rintro e w' ⟨rfl, hd⟩
  exact ⟨rfl, hd⟩

end Go.Proofs.Ytmoomdmdcjokgaa.PG

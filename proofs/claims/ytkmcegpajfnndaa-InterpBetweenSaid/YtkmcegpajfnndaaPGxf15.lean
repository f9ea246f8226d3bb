/- Written by a program of this session (wip/tools/xprint.py, over the functions of the kit's print): functions of the given program as Lean functions, each with its contract, or a law's row; no condition. -/
import Derived.Test.YtkmcegpajfnndaaPGx0
import Derived.Test.YtkmcegpajfnndaaPGxf22
import Derived.Test.YtkmcegpajfnndaaPGxf25
namespace Go.Proofs.Ytkmcegpajfnndaa.PG
open Go.RowKit Go.Proofs.YtkmcegpajfnndaaW.PrintWords Go.Proofs.YtkmcegpajfnndaaW.PrintLast Go.Proofs.YtkmcegpajfnndaaW.PrintMore
attribute [local go_sem] max2_int min2_int max_two min_two max_three min_three max_four min_four   -- for this text's walks alone
set_option linter.unusedVariables false
set_option linter.unusedSimpArgs false

/-! ### interp_Value: function 15 (a text of this session) -/
/-- the first k taps are in range -/
def g8 (x0 x1 x2 x3 x4 x5 x6 x7 : Int) : Nat → Prop
  | 0 => True
  | 1 => (-32768 ≤ x0 ∧ x0 ≤ 32767)
  | 2 => (-32768 ≤ x0 ∧ x0 ≤ 32767) ∧ (-32768 ≤ x1 ∧ x1 ≤ 32767)
  | 3 => (-32768 ≤ x0 ∧ x0 ≤ 32767) ∧ (-32768 ≤ x1 ∧ x1 ≤ 32767) ∧ (-32768 ≤ x2 ∧ x2 ≤ 32767)
  | 4 => (-32768 ≤ x0 ∧ x0 ≤ 32767) ∧ (-32768 ≤ x1 ∧ x1 ≤ 32767) ∧ (-32768 ≤ x2 ∧ x2 ≤ 32767) ∧ (-32768 ≤ x3 ∧ x3 ≤ 32767)
  | 5 => (-32768 ≤ x0 ∧ x0 ≤ 32767) ∧ (-32768 ≤ x1 ∧ x1 ≤ 32767) ∧ (-32768 ≤ x2 ∧ x2 ≤ 32767) ∧ (-32768 ≤ x3 ∧ x3 ≤ 32767) ∧ (-32768 ≤ x4 ∧ x4 ≤ 32767)
  | 6 => (-32768 ≤ x0 ∧ x0 ≤ 32767) ∧ (-32768 ≤ x1 ∧ x1 ≤ 32767) ∧ (-32768 ≤ x2 ∧ x2 ≤ 32767) ∧ (-32768 ≤ x3 ∧ x3 ≤ 32767) ∧ (-32768 ≤ x4 ∧ x4 ≤ 32767) ∧ (-32768 ≤ x5 ∧ x5 ≤ 32767)
  | 7 => (-32768 ≤ x0 ∧ x0 ≤ 32767) ∧ (-32768 ≤ x1 ∧ x1 ≤ 32767) ∧ (-32768 ≤ x2 ∧ x2 ≤ 32767) ∧ (-32768 ≤ x3 ∧ x3 ≤ 32767) ∧ (-32768 ≤ x4 ∧ x4 ≤ 32767) ∧ (-32768 ≤ x5 ∧ x5 ≤ 32767) ∧ (-32768 ≤ x6 ∧ x6 ≤ 32767)
  | _ => (-32768 ≤ x0 ∧ x0 ≤ 32767) ∧ (-32768 ≤ x1 ∧ x1 ≤ 32767) ∧ (-32768 ≤ x2 ∧ x2 ≤ 32767) ∧ (-32768 ≤ x3 ∧ x3 ≤ 32767) ∧ (-32768 ≤ x4 ∧ x4 ≤ 32767) ∧ (-32768 ≤ x5 ∧ x5 ≤ 32767) ∧ (-32768 ≤ x6 ∧ x6 ≤ 32767) ∧ (-32768 ≤ x7 ∧ x7 ≤ 32767)
theorem g8_0 (x0 x1 x2 x3 x4 x5 x6 x7 : Int) : g8 x0 x1 x2 x3 x4 x5 x6 x7 0 = (True) := rfl
theorem g8_1 (x0 x1 x2 x3 x4 x5 x6 x7 : Int) : g8 x0 x1 x2 x3 x4 x5 x6 x7 1 = ((-32768 ≤ x0 ∧ x0 ≤ 32767)) := rfl
theorem g8_2 (x0 x1 x2 x3 x4 x5 x6 x7 : Int) : g8 x0 x1 x2 x3 x4 x5 x6 x7 2 = ((-32768 ≤ x0 ∧ x0 ≤ 32767) ∧ (-32768 ≤ x1 ∧ x1 ≤ 32767)) := rfl
theorem g8_3 (x0 x1 x2 x3 x4 x5 x6 x7 : Int) : g8 x0 x1 x2 x3 x4 x5 x6 x7 3 = ((-32768 ≤ x0 ∧ x0 ≤ 32767) ∧ (-32768 ≤ x1 ∧ x1 ≤ 32767) ∧ (-32768 ≤ x2 ∧ x2 ≤ 32767)) := rfl
theorem g8_4 (x0 x1 x2 x3 x4 x5 x6 x7 : Int) : g8 x0 x1 x2 x3 x4 x5 x6 x7 4 = ((-32768 ≤ x0 ∧ x0 ≤ 32767) ∧ (-32768 ≤ x1 ∧ x1 ≤ 32767) ∧ (-32768 ≤ x2 ∧ x2 ≤ 32767) ∧ (-32768 ≤ x3 ∧ x3 ≤ 32767)) := rfl
theorem g8_5 (x0 x1 x2 x3 x4 x5 x6 x7 : Int) : g8 x0 x1 x2 x3 x4 x5 x6 x7 5 = ((-32768 ≤ x0 ∧ x0 ≤ 32767) ∧ (-32768 ≤ x1 ∧ x1 ≤ 32767) ∧ (-32768 ≤ x2 ∧ x2 ≤ 32767) ∧ (-32768 ≤ x3 ∧ x3 ≤ 32767) ∧ (-32768 ≤ x4 ∧ x4 ≤ 32767)) := rfl
theorem g8_6 (x0 x1 x2 x3 x4 x5 x6 x7 : Int) : g8 x0 x1 x2 x3 x4 x5 x6 x7 6 = ((-32768 ≤ x0 ∧ x0 ≤ 32767) ∧ (-32768 ≤ x1 ∧ x1 ≤ 32767) ∧ (-32768 ≤ x2 ∧ x2 ≤ 32767) ∧ (-32768 ≤ x3 ∧ x3 ≤ 32767) ∧ (-32768 ≤ x4 ∧ x4 ≤ 32767) ∧ (-32768 ≤ x5 ∧ x5 ≤ 32767)) := rfl
theorem g8_7 (x0 x1 x2 x3 x4 x5 x6 x7 : Int) : g8 x0 x1 x2 x3 x4 x5 x6 x7 7 = ((-32768 ≤ x0 ∧ x0 ≤ 32767) ∧ (-32768 ≤ x1 ∧ x1 ≤ 32767) ∧ (-32768 ≤ x2 ∧ x2 ≤ 32767) ∧ (-32768 ≤ x3 ∧ x3 ≤ 32767) ∧ (-32768 ≤ x4 ∧ x4 ≤ 32767) ∧ (-32768 ≤ x5 ∧ x5 ≤ 32767) ∧ (-32768 ≤ x6 ∧ x6 ≤ 32767)) := rfl
theorem g8_8 (x0 x1 x2 x3 x4 x5 x6 x7 : Int) : g8 x0 x1 x2 x3 x4 x5 x6 x7 8 = ((-32768 ≤ x0 ∧ x0 ≤ 32767) ∧ (-32768 ≤ x1 ∧ x1 ≤ 32767) ∧ (-32768 ≤ x2 ∧ x2 ≤ 32767) ∧ (-32768 ≤ x3 ∧ x3 ≤ 32767) ∧ (-32768 ≤ x4 ∧ x4 ≤ 32767) ∧ (-32768 ≤ x5 ∧ x5 ≤ 32767) ∧ (-32768 ≤ x6 ∧ x6 ≤ 32767) ∧ (-32768 ≤ x7 ∧ x7 ≤ 32767)) := rfl
def tapOk (x : Int) : Bool := decide (-32768 ≤ x) && decide (x ≤ 32767)
def valL (k : Nat) (f : Int) (l : List Int) : Int := val8 k f (l.getD 0 0) (l.getD 1 0) (l.getD 2 0) (l.getD 3 0) (l.getD 4 0) (l.getD 5 0) (l.getD 6 0) (l.getD 7 0)
def interp_Value.f (a0 : Int) (l1 : List Int) (a2 : Int) : Option (Int × Int) := if a0 < 0 then some (0, 6) else if 4 < a0 then some (0, 6) else if l1.length = 8 then (if l1.all tapOk then (if a2 < 0 then some (0, 5) else if 65535 < a2 then some (0, 5) else some (valL a0.toNat (a2 / 256) l1, 0)) else some (0, 1)) else some (0, 1)
theorem curves_at (k : Nat) (hk : k ≤ 4) : ∀ w, (Instr.index 51 curvesV (.int .i64 k)).run Try.prog w = .ok (curveV k) w := by
  rcases (by omega : k = 0 ∨ k = 1 ∨ k = 2 ∨ k = 3 ∨ k = 4) with rfl | rfl | rfl | rfl | rfl
  all_goals exact fun _ => by kernel_rfl
theorem value_any (k : Nat) (hk : k ≤ 4) (f x0 x1 x2 x3 x4 x5 x6 x7 : Int) (d0 : 0 ≤ f) (d1 : f ≤ 255) (b : Nat) (w : World) (hg : g8 x0 x1 x2 x3 x4 x5 x6 x7 8) (hX : w.heap[b]? = some (.cells #[iv x0, iv x1, iv x2, iv x3, iv x4, iv x5, iv x6, iv x7] 53 (0, 0))) :
    Calls Try.prog 25 #[curveV k, .pointer (some ⟨b, 0, none⟩), iv f] w fun e w' => e = .returned (iv (val8 k f x0 x1 x2 x3 x4 x5 x6 x7)) ∧ Below w.heap.size w w' := by
  rw [g8_8] at hg
  obtain ⟨⟨l0, m0⟩, ⟨l1, m1⟩, ⟨l2, m2⟩, ⟨l3, m3⟩, ⟨l4, m4⟩, ⟨l5, m5⟩, ⟨l6, m6⟩, ⟨l7, m7⟩⟩ := hg
  rcases (by omega : k = 0 ∨ k = 1 ∨ k = 2 ∨ k = 3 ∨ k = 4) with rfl | rfl | rfl | rfl | rfl
  · exact value_0 f x0 x1 x2 x3 x4 x5 x6 x7 d0 d1 b w l0 m0 l1 m1 l2 m2 l3 m3 l4 m4 l5 m5 l6 m6 l7 m7 hX
  · exact value_1 f x0 x1 x2 x3 x4 x5 x6 x7 d0 d1 b w l0 m0 l1 m1 l2 m2 l3 m3 l4 m4 l5 m5 l6 m6 l7 m7 hX
  · exact value_2 f x0 x1 x2 x3 x4 x5 x6 x7 d0 d1 b w l0 m0 l1 m1 l2 m2 l3 m3 l4 m4 l5 m5 l6 m6 l7 m7 hX
  · exact value_3 f x0 x1 x2 x3 x4 x5 x6 x7 d0 d1 b w l0 m0 l1 m1 l2 m2 l3 m3 l4 m4 l5 m5 l6 m6 l7 m7 hX
  · exact value_4 f x0 x1 x2 x3 x4 x5 x6 x7 d0 d1 b w l0 m0 l1 m1 l2 m2 l3 m3 l4 m4 l5 m5 l6 m6 l7 m7 hX
theorem tap_bad {l : List Int} {x : Int} {a : Option (Int × Int)} {r1 r2 : Int} (h : (if l.all tapOk = true then a else some (0, 1)) = some (r1, r2)) (hx : x ∈ l) (hb : x < -32768 ∨ 32767 < x) : Ending.returned (.tuple #[iv 0, iv 1]) = Ending.returned (.tuple #[.int .i64 r1, .int .i64 r2]) := by
  rw [if_neg (fun hh => by have := List.all_eq_true.mp hh x hx; simp [tapOk] at this; omega)] at h
  simp only [Option.some.injEq, Prod.mk.injEq] at h
  obtain ⟨rfl, rfl⟩ := h
  rfl
theorem tap_all {x0 x1 x2 x3 x4 x5 x6 x7 : Int} {a b : Option (Int × Int)} {r : Int × Int} (hg : (-32768 ≤ x0 ∧ x0 ≤ 32767) ∧ (-32768 ≤ x1 ∧ x1 ≤ 32767) ∧ (-32768 ≤ x2 ∧ x2 ≤ 32767) ∧ (-32768 ≤ x3 ∧ x3 ≤ 32767) ∧ (-32768 ≤ x4 ∧ x4 ≤ 32767) ∧ (-32768 ≤ x5 ∧ x5 ≤ 32767) ∧ (-32768 ≤ x6 ∧ x6 ≤ 32767) ∧ (-32768 ≤ x7 ∧ x7 ≤ 32767)) (h : (if [x0, x1, x2, x3, x4, x5, x6, x7].all tapOk = true then a else b) = some r) : a = some r := by
  rwa [if_pos (by simp [tapOk]; omega)] at h
set_option maxHeartbeats 4000000 in
theorem interp_Value.calls (a0 : Int) (A1 : Option Addr) (c1 : Nat) (l1 : List Int) (a2 : Int) (r1 : Int) (r2 : Int) (w : World) (hr1 : Kd.C (Kd.int .i64) w A1 l1.length l1) (hc1 : l1.length ≤ c1) (h : interp_Value.f a0 l1 a2 = some (r1, r2)) :
    Calls Try.prog 15 #[.int .i64 a0, .slice A1 l1.length c1, .int .i64 a2] w fun e w' => e = .returned (.tuple #[.int .i64 r1, .int .i64 r2]) ∧ Below w.heap.size w w' := by
  unfold interp_Value.f at h
  by_cases c1' : a0 < 0
  · rw [if_pos c1'] at h; simp only [Option.some.injEq, Prod.mk.injEq] at h; obtain ⟨rfl, rfl⟩ := h
    clear hr1 hc1
    go_enter Try.func15, Try.ntmps15
    go_wp2
    go_ret2
    exact ⟨rfl, Below.refl _ _⟩
  by_cases c2 : 4 < a0
  · rw [if_neg c1', if_pos c2] at h; simp only [Option.some.injEq, Prod.mk.injEq] at h; obtain ⟨rfl, rfl⟩ := h
    clear hr1 hc1
    go_enter Try.func15, Try.ntmps15
    go_wp2
    go_ret2
    exact ⟨rfl, Below.refl _ _⟩
  rw [if_neg c1', if_neg c2] at h
  by_cases c3 : ¬ l1.length = 8
  · rw [if_neg c3] at h; simp only [Option.some.injEq, Prod.mk.injEq] at h; obtain ⟨rfl, rfl⟩ := h
    have hm := hr1.2.1
    have hn : ((l1.length : Int) != 8) = true := bne_iff_ne.mpr (by omega)
    clear hr1 hc1 c3
    go_enter Try.func15, Try.ntmps15
    go_wp2
    go_ret2
    exact ⟨rfl, Below.refl _ _⟩
  replace c3 : l1.length = 8 := Decidable.not_not.mp c3
  rw [if_pos c3] at h
  obtain ⟨hl, hm, hrd⟩ := Kd.reads_of_C (d := (0 : Int)) hr1
  obtain ⟨ad, rfl, hcell⟩ := hrd (by omega)
  rw [c3] at hcell hc1
  have e0 : w.cell? ad = some (.int .i64 (l1.getD 0 0)) := hcell 0 (by omega)
  have e1 : w.cell? { ad with off := ad.off + 1, spot := none } = some (.int .i64 (l1.getD 1 0)) := hcell 1 (by omega)
  have e2 : w.cell? { ad with off := ad.off + 2, spot := none } = some (.int .i64 (l1.getD 2 0)) := hcell 2 (by omega)
  have e3 : w.cell? { ad with off := ad.off + 3, spot := none } = some (.int .i64 (l1.getD 3 0)) := hcell 3 (by omega)
  have e4 : w.cell? { ad with off := ad.off + 4, spot := none } = some (.int .i64 (l1.getD 4 0)) := hcell 4 (by omega)
  have e5 : w.cell? { ad with off := ad.off + 5, spot := none } = some (.int .i64 (l1.getD 5 0)) := hcell 5 (by omega)
  have e6 : w.cell? { ad with off := ad.off + 6, spot := none } = some (.int .i64 (l1.getD 6 0)) := hcell 6 (by omega)
  have e7 : w.cell? { ad with off := ad.off + 7, spot := none } = some (.int .i64 (l1.getD 7 0)) := hcell 7 (by omega)
  obtain ⟨x0, x1, x2, x3, x4, x5, x6, x7, rfl⟩ : ∃ x0 x1 x2 x3 x4 x5 x6 x7 : Int, l1 = [x0, x1, x2, x3, x4, x5, x6, x7] := by
    match l1, c3 with
    | [y0, y1, y2, y3, y4, y5, y6, y7], _ => exact ⟨y0, y1, y2, y3, y4, y5, y6, y7, rfl⟩
  clear hcell hrd hl hr1 c3
  simp only [List.getD_cons_zero, List.getD_cons_succ] at e0 e1 e2 e3 e4 e5 e6 e7
  obtain ⟨k, hk, rfl⟩ : ∃ k : Nat, k ≤ 4 ∧ a0 = k := ⟨a0.toNat, by omega, by omega⟩
  have HH := Lib.hid h
  clear h
  have hi := curves_at k hk
  have hat : ∀ w, (Instr.arrayAt 53 (.slice (some ad) 8 c1)).run Try.prog w = .ok (.pointer (some ad)) w := fun w => run_arrayAt w 53 _ 8 _ 8 c1 Try.underlying53 (Nat.le_refl _)
  show Calls Try.prog 15 #[.int .i64 k, .slice (some ad) 8 c1, .int .i64 a2] w _
  go_enter Try.func15, Try.ntmps15
  go_wp2
  go_loop [22] (fun c => ∃ j : Nat, j ≤ 8 ∧ c = iv j ∧ g8 x0 x1 x2 x3 x4 x5 x6 x7 j) (fun c => 8 - (intOf c).toNat)
  case atStart => exact ⟨0, by omega, rfl, trivial⟩
  case round =>
    obtain ⟨j, hj, rfl, hg⟩ := hrel
    rcases (by omega : j = 0 ∨ j = 1 ∨ j = 2 ∨ j = 3 ∨ j = 4 ∨ j = 5 ∨ j = 6 ∨ j = 7 ∨ j = 8) with rfl | rfl | rfl | rfl | rfl | rfl | rfl | rfl | rfl
    · go_wp2
      all_goals first
        | exact ⟨⟨1, by omega, rfl, by rw [g8_0] at hg; rw [g8_1]; omega⟩, by simp [intOf]⟩
        | (go_ret2; exact ⟨tap_bad (x := x0) HH.out (by simp) (by omega), Below.refl _ _⟩)
    · go_wp2
      all_goals first
        | exact ⟨⟨2, by omega, rfl, by rw [g8_1] at hg; rw [g8_2]; omega⟩, by simp [intOf]⟩
        | (go_ret2; exact ⟨tap_bad (x := x1) HH.out (by simp) (by omega), Below.refl _ _⟩)
    · go_wp2
      all_goals first
        | exact ⟨⟨3, by omega, rfl, by rw [g8_2] at hg; rw [g8_3]; omega⟩, by simp [intOf]⟩
        | (go_ret2; exact ⟨tap_bad (x := x2) HH.out (by simp) (by omega), Below.refl _ _⟩)
    · go_wp2
      all_goals first
        | exact ⟨⟨4, by omega, rfl, by rw [g8_3] at hg; rw [g8_4]; omega⟩, by simp [intOf]⟩
        | (go_ret2; exact ⟨tap_bad (x := x3) HH.out (by simp) (by omega), Below.refl _ _⟩)
    · go_wp2
      all_goals first
        | exact ⟨⟨5, by omega, rfl, by rw [g8_4] at hg; rw [g8_5]; omega⟩, by simp [intOf]⟩
        | (go_ret2; exact ⟨tap_bad (x := x4) HH.out (by simp) (by omega), Below.refl _ _⟩)
    · go_wp2
      all_goals first
        | exact ⟨⟨6, by omega, rfl, by rw [g8_5] at hg; rw [g8_6]; omega⟩, by simp [intOf]⟩
        | (go_ret2; exact ⟨tap_bad (x := x5) HH.out (by simp) (by omega), Below.refl _ _⟩)
    · go_wp2
      all_goals first
        | exact ⟨⟨7, by omega, rfl, by rw [g8_6] at hg; rw [g8_7]; omega⟩, by simp [intOf]⟩
        | (go_ret2; exact ⟨tap_bad (x := x6) HH.out (by simp) (by omega), Below.refl _ _⟩)
    · go_wp2
      all_goals first
        | exact ⟨⟨8, by omega, rfl, by rw [g8_7] at hg; rw [g8_8]; omega⟩, by simp [intOf]⟩
        | (go_ret2; exact ⟨tap_bad (x := x7) HH.out (by simp) (by omega), Below.refl _ _⟩)
    · clear hm
      have hg' := hg
      rw [g8_8] at hg'
      have HE := Lib.hid (tap_all hg' HH.out)
      clear HH hg'
      by_cases c4 : a2 < 0
      · go_wp2
        go_ret2
        exact ⟨by have e := HE.out; rw [if_pos c4] at e; simp only [Option.some.injEq, Prod.mk.injEq] at e; obtain ⟨rfl, rfl⟩ := e; rfl, Below.refl _ _⟩
      by_cases c5 : 65535 < a2
      · go_wp2
        go_ret2
        exact ⟨by have e := HE.out; rw [if_neg (by omega), if_pos c5] at e; simp only [Option.some.injEq, Prod.mk.injEq] at e; obtain ⟨rfl, rfl⟩ := e; rfl, Below.refl _ _⟩
      have d0 : 0 ≤ a2 / 256 := by omega
      have d1 : a2 / 256 ≤ 255 := by omega
      go_wp2_with (first | (go_at_call 22; refine (curves_any _).mono ?_; rintro e w1 ⟨rfl, hb1⟩) | (go_at_call 25; refine (value_any k hk _ x0 x1 x2 x3 x4 x5 x6 x7 d0 d1 w.heap.size _ hg ((hb1.block _ (by simp)).trans (heap_alloc_new w _))).mono ?_; rintro e w2 ⟨rfl, hb2⟩))
      go_ret2
      exact ⟨by have e := HE.out; rw [if_neg (by omega), if_neg (by omega)] at e; simp only [Option.some.injEq, Prod.mk.injEq] at e; obtain ⟨rfl, rfl⟩ := e; rfl, ((Below.refl _ _).alloc (Nat.le_refl _) _).trans ((hb1.mono (by simp)).trans (hb2.mono (by have := hb1.size; simp at this; omega)))⟩

end Go.Proofs.Ytkmcegpajfnndaa.PG

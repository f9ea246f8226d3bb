/- Four operators: the small functions of both packages. -/
import Derived.Test.YtfodpoccjdaaaaaReG
namespace Go.Proofs.Ytfodpoccjdaaaaa.CS
open Go.RowKit Go.Proofs.YtfodpoccjdaaaaaW.PrintLast Go.Proofs.Ytfodpoccjdaaaaa.TX Go.Proofs.Ytfodpoccjdaaaaa.PG
set_option linter.unusedVariables false
set_option linter.unusedSimpArgs false
set_option maxHeartbeats 4000000 in
set_option maxRecDepth 100000 in
theorem rfloor_any (a b : Int) (h0 : -1000000000000000 ≤ a) (h1 : a ≤ 1000000000000000) (hb : 0 < b) (hb2 : b ≤ 1000000000000000) (w : World) : Calls Try.prog 108 #[iv a, iv b] w fun e w' => e = .returned (iv (a / b)) ∧ w = w' := by
  have hq := tdiv_rem (a := a) hb
  have q2 : -1000000000000000 ≤ a.tdiv b ∧ a.tdiv b ≤ 1000000000000000 := by
    rcases Int.lt_or_le a 0 with ha | ha
    · obtain ⟨m, rfl⟩ : ∃ m, a = -m := ⟨-a, by omega⟩
      rw [Int.neg_tdiv, Int.tdiv_eq_ediv_of_nonneg (by omega)]
      have q0 : 0 ≤ m / b := Int.ediv_nonneg (by omega) (by omega)
      have q1 : m / b ≤ m := Int.ediv_le_self _ (by omega)
      omega
    · rw [Int.tdiv_eq_ediv_of_nonneg ha]
      have q0 : 0 ≤ a / b := Int.ediv_nonneg (by omega) (by omega)
      have q1 : a / b ≤ a := Int.ediv_le_self _ (by omega)
      omega
  have wq : wrap64 (a.tdiv b) = a.tdiv b := by unfold wrap64; omega
  have n0 : ¬ (b = 0) := by omega
  by_cases hr : a.tmod b < 0
  · rw [if_pos hr] at hq
    rw [← hq]
    clear hq
    go_enter Try.func108, Try.ntmps108
    go_wp2
    go_ret
    exact ⟨rfl, rfl⟩
  · rw [if_neg hr] at hq
    rw [← hq]
    clear hq
    go_enter Try.func108, Try.ntmps108
    go_wp2
    go_ret
    exact ⟨rfl, rfl⟩
/-- rounded to the nearest -/
def nr (a b : Int) : Int := if a < 0 then -((-2 * a + b) / (2 * b)) else (2 * a + b) / (2 * b)
set_option maxHeartbeats 4000000 in
set_option maxRecDepth 100000 in
theorem cin_yes (n lo hi : Int) (w : World) (h0 : lo ≤ n) (h1 : n ≤ hi) : Calls Try.prog 102 #[iv n, iv lo, iv hi] w fun e w' => e = .returned (.bool true) ∧ w = w' := by
  go_enter Try.func102, Try.ntmps102
  go_wp2
  go_ret
  exact ⟨rfl, rfl⟩
set_option maxHeartbeats 4000000 in
set_option maxRecDepth 100000 in
theorem cin_no (n lo hi : Int) (w : World) (h : n < lo ∨ hi < n) : Calls Try.prog 102 #[iv n, iv lo, iv hi] w fun e w' => e = .returned (.bool false) ∧ w = w' := by
  rcases (by omega : n < lo ∨ (lo ≤ n ∧ hi < n)) with h | ⟨h0, h⟩ <;> (
    have d1 : lo ≤ n → decide (n ≤ hi) = false := fun h0 => decide_eq_false (by omega)
    first | (have d0 : decide (lo ≤ n) = true := decide_eq_true h0; have d2 := d1 h0) | (have d0 : decide (lo ≤ n) = false := decide_eq_false (by omega))
    clear d1
    go_enter Try.func102, Try.ntmps102
    go_wp2
    go_ret
    exact ⟨rfl, rfl⟩)
theorem cin_any (n lo hi : Int) (w : World) : Calls Try.prog 102 #[iv n, iv lo, iv hi] w fun e w' => e = .returned (.bool (decide (lo ≤ n ∧ n ≤ hi))) ∧ w = w' := by
  by_cases h : lo ≤ n ∧ n ≤ hi
  · rw [decide_eq_true h]
    exact cin_yes n lo hi w h.1 h.2
  · rw [decide_eq_false h]
    exact cin_no n lo hi w (by omega)
set_option maxHeartbeats 4000000 in
set_option maxRecDepth 100000 in
theorem crin_yes (n lo hi : Int) (w : World) (h0 : lo ≤ n) (h1 : n ≤ hi) : Calls Try.prog 107 #[iv n, iv lo, iv hi] w fun e w' => e = .returned (.bool true) ∧ w = w' := by
  go_enter Try.func107, Try.ntmps107
  go_wp2
  go_ret
  exact ⟨rfl, rfl⟩
set_option maxHeartbeats 4000000 in
set_option maxRecDepth 100000 in
theorem crin_no (n lo hi : Int) (w : World) (h : n < lo ∨ hi < n) : Calls Try.prog 107 #[iv n, iv lo, iv hi] w fun e w' => e = .returned (.bool false) ∧ w = w' := by
  rcases (by omega : n < lo ∨ (lo ≤ n ∧ hi < n)) with h | ⟨h0, h⟩ <;> (
    have d1 : lo ≤ n → decide (n ≤ hi) = false := fun h0 => decide_eq_false (by omega)
    first | (have d0 : decide (lo ≤ n) = true := decide_eq_true h0; have d2 := d1 h0) | (have d0 : decide (lo ≤ n) = false := decide_eq_false (by omega))
    clear d1
    go_enter Try.func107, Try.ntmps107
    go_wp2
    go_ret
    exact ⟨rfl, rfl⟩)
theorem crin_any (n lo hi : Int) (w : World) : Calls Try.prog 107 #[iv n, iv lo, iv hi] w fun e w' => e = .returned (.bool (decide (lo ≤ n ∧ n ≤ hi))) ∧ w = w' := by
  by_cases h : lo ≤ n ∧ n ≤ hi
  · rw [decide_eq_true h]
    exact crin_yes n lo hi w h.1 h.2
  · rw [decide_eq_false h]
    exact crin_no n lo hi w (by omega)
theorem wave_any {p : Int} (h0 : 0 ≤ p) (h1 : p < 64) (w : World) : Calls Try.prog 29 #[iv 0, iv p, iv 0] w fun e w' => e = .returned (iv (wv p)) ∧ Below w.heap.size w w' := tone_Wave.calls 0 p 0 (wv p) w (wv_f h0 h1).1
theorem rwave_any {p : Int} (h0 : 0 ≤ p) (h1 : p < 64) (w : World) : Calls Try.prog 30 #[iv 0, iv p, iv 0] w fun e w' => e = .returned (iv (wv p)) ∧ Below w.heap.size w w' := orchestrionref01_Wave.calls 9000 0 p 0 (wv p) w (wv_f h0 h1).2
def OP.cs (o : OP) : Array Value := #[iv o.mu, iv o.le, iv o.at_, iv o.de, iv o.su, iv o.re]
theorem and63b (n : Int) : Go.bits .and .i64 n 63 = n % 64 := Pure.and63 n
set_option maxHeartbeats 4000000 in
set_option maxRecDepth 100000 in
theorem heard_any (o : OP) (ho : o.Ok) (ph l m : Int) (hp : 0 ≤ ph ∧ ph < 4194304) (hl : 0 ≤ l ∧ l ≤ 520192) (hm : -100000 ≤ m ∧ m ≤ 100000) (w : World) :
    Calls Try.prog 110 #[.agg o.cs, iv ph, iv l, iv m] w fun e w' => e = .returned (iv (putV o ph l m)) ∧ Below w.heap.size w w' := by
  have B0 : Below w.heap.size w (w.alloc (Obj.cells o.cs 49)) := (Below.refl _ _).alloc (Nat.le_refl _) _
  have y1 := (bkCell (heap_alloc_new w (Obj.cells o.cs 49)) 1).trans (show _ = some (iv o.le) from rfl)
  obtain ⟨l0, l1⟩ := hl
  obtain ⟨p0, p1⟩ := hp
  obtain ⟨m0, m1⟩ := hm
  have e0 := evl_bd ho l0 l1
  have hle := ho.2.1
  obtain ⟨k0, k1⟩ := hle
  have q1 : 0 ≤ l / 4096 ∧ l / 4096 ≤ 127 := by omega
  have q2 : 0 ≤ l / 4096 * (127 - o.le) := Int.mul_nonneg q1.1 (by omega)
  have q3 : l / 4096 * (127 - o.le) ≤ 127 * 127 := Int.mul_le_mul q1.2 (by omega) (by omega) (by omega)
  have FC := Lib.hid fun (W : World) => rfloor_any (ph + 1024 * m) 65536 (by omega) (by omega) (by decide) (by decide) W
  have hpos : 0 ≤ posv ph m ∧ posv ph m < 64 := by unfold posv; omega
  have WC := Lib.hid fun (W : World) => rwave_any hpos.1 hpos.2 W
  have wb := wv_bd hpos.1 hpos.2
  have hmul := mul_bd (s := wv (posv ph m) * 128) (e := evl o l) (by omega) (by omega) e0.1 e0.2
  have GC := Lib.hid fun (W : World) => rfloor_any (wv (posv ph m) * 128 * evl o l) 16256 (by omega) (by omega) (by decide) (by decide) W
  have HE := Lib.hid (show l / 4096 * (127 - o.le) / 127 = evl o l from rfl)
  have HP := Lib.hid (show (ph + 1024 * m) / 65536 % 64 = posv ph m from rfl)
  have HV := Lib.hid (show wv (posv ph m) * 128 * evl o l / 16256 = putV o ph l m from rfl)
  obtain ⟨w0, w1⟩ := wb
  obtain ⟨e0, e1⟩ := e0
  obtain ⟨v0, v1⟩ := hmul
  obtain ⟨z0, z1⟩ := hpos
  obtain ⟨q0, q1⟩ := q1
  go_enter Try.func110, Try.ntmps110
  go_upto_region 2 with (fail)
  rw [HE.out]
  clear q0 q1 q2 q3 HE
  go_upto_region 3 with (go_at_call 108; (with_reducible refine (FC.out _).mono ?_); rintro e w8 ⟨rfl, rfl⟩)
  rw [and63b, HP.out]
  clear HP m0 m1 p0 p1
  generalize posv ph m = ps at *
  generalize evl o l = ee at *
  generalize wv ps = wa at *
  have B1 := Lib.hid B0
  go_wp2_with (first
    | (go_at_call 30; (with_reducible refine (WC.out _).mono ?_); rintro e w8 ⟨rfl, hb8⟩; have B8 := bdT B1.out B1.out.size hb8)
    | (go_at_call 108; (with_reducible refine (GC.out _).mono ?_); rintro e w9 ⟨rfl, rfl⟩))
  go_ret
  exact ⟨congrArg (fun x => Ending.returned (iv x)) HV.out, B8⟩
theorem envL_off (o : OP) (l : Int) (f : Bool) : envL o l f false = max 0 (l - 8 * o.re) := if_pos rfl
theorem envF_off (o : OP) (l : Int) (f : Bool) : envF o l f false = f := if_pos rfl
theorem envL_up (o : OP) (l : Int) : envL o l false true = min 520192 (l + 64 * o.at_) := by unfold envL; rw [if_neg (by decide), if_pos rfl]
theorem envF_up (o : OP) (l : Int) : envF o l false true = decide (min 520192 (l + 64 * o.at_) = 520192) := by unfold envF; rw [if_neg (by decide), if_pos rfl]
theorem envL_dn (o : OP) (l : Int) : envL o l true true = max (4096 * o.su) (l - 8 * o.de) := by unfold envL; rw [if_neg (by decide), if_neg (by decide)]
theorem envF_dn (o : OP) (l : Int) : envF o l true true = true := by unfold envF; rw [if_neg (by decide), if_neg (by decide)]
set_option maxHeartbeats 4000000 in
set_option maxRecDepth 100000 in
theorem renv_off (o : OP) (ho : o.Ok) (l : Int) (f : Bool) (hl : 0 ≤ l ∧ l ≤ 520192)  (w : World) :
    Calls Try.prog 112 #[.agg o.cs, iv l, .bool f, .bool false] w fun e w' => e = .returned (.tuple #[iv (envL o l f false), .bool (envF o l f false)]) ∧ Below w.heap.size w w' := by
  have B0 : Below w.heap.size w (w.alloc (Obj.cells o.cs 49)) := (Below.refl _ _).alloc (Nat.le_refl _) _
  have y2 := (bkCell (heap_alloc_new w (Obj.cells o.cs 49)) 2).trans (show _ = some (iv o.at_) from rfl)
  have y3 := (bkCell (heap_alloc_new w (Obj.cells o.cs 49)) 3).trans (show _ = some (iv o.de) from rfl)
  have y4 := (bkCell (heap_alloc_new w (Obj.cells o.cs 49)) 4).trans (show _ = some (iv o.su) from rfl)
  have y5 := (bkCell (heap_alloc_new w (Obj.cells o.cs 49)) 5).trans (show _ = some (iv o.re) from rfl)
  obtain ⟨l0, l1⟩ := hl
  obtain ⟨_, _, ⟨a0, a1⟩, ⟨d0, d1⟩, ⟨s0, s1⟩, r0, r1⟩ := ho
  rw [envL_off, envF_off]
  rcases Int.lt_or_le 0 (l - 8 * o.re) with h | h
  · rw [show max 0 (l - 8 * o.re) = l - 8 * o.re by omega]
    go_enter Try.func112, Try.ntmps112
    go_wp2
    go_ret2
    exact ⟨rfl, B0⟩
  · rw [show max 0 (l - 8 * o.re) = 0 by omega]
    go_enter Try.func112, Try.ntmps112
    go_wp2
    go_ret2
    exact ⟨rfl, B0⟩
set_option maxHeartbeats 4000000 in
set_option maxRecDepth 100000 in
theorem renv_up (o : OP) (ho : o.Ok) (l : Int)  (hl : 0 ≤ l ∧ l ≤ 520192)  (w : World) :
    Calls Try.prog 112 #[.agg o.cs, iv l, .bool false, .bool true] w fun e w' => e = .returned (.tuple #[iv (envL o l false true), .bool (envF o l false true)]) ∧ Below w.heap.size w w' := by
  have B0 : Below w.heap.size w (w.alloc (Obj.cells o.cs 49)) := (Below.refl _ _).alloc (Nat.le_refl _) _
  have y2 := (bkCell (heap_alloc_new w (Obj.cells o.cs 49)) 2).trans (show _ = some (iv o.at_) from rfl)
  have y3 := (bkCell (heap_alloc_new w (Obj.cells o.cs 49)) 3).trans (show _ = some (iv o.de) from rfl)
  have y4 := (bkCell (heap_alloc_new w (Obj.cells o.cs 49)) 4).trans (show _ = some (iv o.su) from rfl)
  have y5 := (bkCell (heap_alloc_new w (Obj.cells o.cs 49)) 5).trans (show _ = some (iv o.re) from rfl)
  obtain ⟨l0, l1⟩ := hl
  obtain ⟨_, _, ⟨a0, a1⟩, ⟨d0, d1⟩, ⟨s0, s1⟩, r0, r1⟩ := ho
  rw [envL_up, envF_up]
  rcases Int.lt_or_le (l + 64 * o.at_) 520192 with h | h
  rotate_left
  · rw [show min 520192 (l + 64 * o.at_) = 520192 by omega, show decide ((520192 : Int) = 520192) = true from rfl]
    go_enter Try.func112, Try.ntmps112
    go_wp2
    go_ret2
    exact ⟨rfl, B0⟩
  · rw [show min 520192 (l + 64 * o.at_) = l + 64 * o.at_ by omega]
    by_cases h2 : l + 64 * o.at_ = 520192
    · have e1 : (l + 64 * o.at_ == 520192) = true := by simp [h2]
      rw [decide_eq_true h2]
      clear h2
      go_enter Try.func112, Try.ntmps112
      go_wp2
      go_ret2
      exact ⟨rfl, B0⟩
    · have e1 : (l + 64 * o.at_ == 520192) = false := by simp [h2]
      rw [decide_eq_false h2]
      clear h2
      go_enter Try.func112, Try.ntmps112
      go_wp2
      go_ret2
      exact ⟨rfl, B0⟩
set_option maxHeartbeats 4000000 in
set_option maxRecDepth 100000 in
theorem renv_dn (o : OP) (ho : o.Ok) (l : Int)  (hl : 0 ≤ l ∧ l ≤ 520192) (hk : 4096 * o.su ≤ l) (w : World) :
    Calls Try.prog 112 #[.agg o.cs, iv l, .bool true, .bool true] w fun e w' => e = .returned (.tuple #[iv (envL o l true true), .bool (envF o l true true)]) ∧ Below w.heap.size w w' := by
  have B0 : Below w.heap.size w (w.alloc (Obj.cells o.cs 49)) := (Below.refl _ _).alloc (Nat.le_refl _) _
  have y2 := (bkCell (heap_alloc_new w (Obj.cells o.cs 49)) 2).trans (show _ = some (iv o.at_) from rfl)
  have y3 := (bkCell (heap_alloc_new w (Obj.cells o.cs 49)) 3).trans (show _ = some (iv o.de) from rfl)
  have y4 := (bkCell (heap_alloc_new w (Obj.cells o.cs 49)) 4).trans (show _ = some (iv o.su) from rfl)
  have y5 := (bkCell (heap_alloc_new w (Obj.cells o.cs 49)) 5).trans (show _ = some (iv o.re) from rfl)
  obtain ⟨l0, l1⟩ := hl
  obtain ⟨_, _, ⟨a0, a1⟩, ⟨d0, d1⟩, ⟨s0, s1⟩, r0, r1⟩ := ho
  rw [envL_dn, envF_dn]
  by_cases h : 4096 * o.su < l
  · have e1 : decide (4096 * o.su < l) = true := decide_eq_true h
    rcases Int.lt_or_le (4096 * o.su) (l - 8 * o.de) with h | h
    · rw [show max (4096 * o.su) (l - 8 * o.de) = l - 8 * o.de by omega]
      go_enter Try.func112, Try.ntmps112
      go_wp2
      go_ret2
      exact ⟨rfl, B0⟩
    · rw [show max (4096 * o.su) (l - 8 * o.de) = 4096 * o.su by omega]
      go_enter Try.func112, Try.ntmps112
      go_wp2
      go_ret2
      exact ⟨rfl, B0⟩
  · have e1 : decide (4096 * o.su < l) = false := decide_eq_false h
    rw [show max (4096 * o.su) (l - 8 * o.de) = l by omega]
    go_enter Try.func112, Try.ntmps112
    go_wp2
    go_ret2
    exact ⟨rfl, B0⟩
theorem renv_any (o : OP) (ho : o.Ok) (l : Int) (f on : Bool) (hl : 0 ≤ l ∧ l ≤ 520192) (hk : on = true → f = true → 4096 * o.su ≤ l) (w : World) :
    Calls Try.prog 112 #[.agg o.cs, iv l, .bool f, .bool on] w fun e w' => e = .returned (.tuple #[iv (envL o l f on), .bool (envF o l f on)]) ∧ Below w.heap.size w w' := by
  cases on
  · exact renv_off o ho l f hl w
  · cases f
    · exact renv_up o ho l hl w
    · exact renv_dn o ho l hl (hk rfl rfl) w
end Go.Proofs.Ytfodpoccjdaaaaa.CS

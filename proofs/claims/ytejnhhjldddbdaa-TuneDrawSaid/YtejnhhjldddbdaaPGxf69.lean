/- Written by a program of this session (wip/tools/xprint.py, over the functions of the kit's print): functions of the given program as Lean functions, each with its contract, or a law's row; no condition. -/
import Derived.Test.YtejnhhjldddbdaaPGx0
namespace Go.Proofs.Ytejnhhjldddbdaa.PG
open Go.RowKit Go.Proofs.YtejnhhjldddbdaaW.PrintWords Go.Proofs.YtejnhhjldddbdaaW.PrintLast Go.Proofs.YtejnhhjldddbdaaW.PrintMore
attribute [local go_sem] max2_int min2_int max_two min_two max_three min_three max_four min_four   -- for this text's walks alone
set_option linter.unusedVariables false
set_option linter.unusedSimpArgs false

/-! ### reel_Curves: function 69 (a text of this session) -/
/-- a whole number as a value -/
abbrev iv (x : Int) : Value := .int .i64 x
/-- a tap's weight of the kind 4 -/
def ww (i f : Int) : Int := if 256 * (i - 3) - f < 0 then (if -(256 * (i - 3) - f) < 1024 then (1024 - -(256 * (i - 3) - f)) * (1024 - -(256 * (i - 3) - f)) else 0) else (if 256 * (i - 3) - f < 1024 then (1024 - (256 * (i - 3) - f)) * (1024 - (256 * (i - 3) - f)) else 0)
/-- the eight weights of a kind (its number as the code has it) -/
def wts : Nat → Int → List Int
  | 0, _ => [0, 0, 0, 1, 0, 0, 0, 0]
  | 1, f => [0, 0, 0, 256 - f, f, 0, 0, 0]
  | 2, f => [0, 0, -f * f * f + 512 * f * f - 65536 * f, 3 * f * f * f - 1280 * f * f + 33554432, -3 * f * f * f + 1024 * f * f + 65536 * f, f * f * f - 256 * f * f, 0, 0]
  | 3, f => [0, 0, (256 - f) * (256 - f), 65536 + 2 * f * (256 - f), f * f, 0, 0, 0]
  | _, f => [ww 0 f, ww 1 f, ww 2 f, ww 3 f, ww 4 f, ww 5 f, ww 6 f, ww 7 f]
theorem wts_len8 : ∀ (n : Nat) (f : Int), (wts n f).length = 8
  | 0, _ => rfl
  | 1, _ => rfl
  | 2, _ => rfl
  | 3, _ => rfl
  | _ + 4, _ => rfl
def shf : Nat → Int
  | 0 => 0
  | 1 => 8
  | 2 => 25
  | 3 => 17
  | _ => -1
def wt (kind : Nat) (f : Int) (i : Nat) : Int := (wts kind f).getD i 0
abbrev wv (kind : Nat) (f : Int) : Value := .agg #[iv (wt kind f 0), iv (wt kind f 1), iv (wt kind f 2), iv (wt kind f 3), iv (wt kind f 4), iv (wt kind f 5), iv (wt kind f 6), iv (wt kind f 7)]

def wc : Nat → Int → Array Value
  | 0, _ => #[iv 0, iv 0, iv 0, iv 0, iv 0, iv 0, iv 0, iv 0]
  | 1, f => #[iv (ww 0 f), iv 0, iv 0, iv 0, iv 0, iv 0, iv 0, iv 0]
  | 2, f => #[iv (ww 0 f), iv (ww 1 f), iv 0, iv 0, iv 0, iv 0, iv 0, iv 0]
  | 3, f => #[iv (ww 0 f), iv (ww 1 f), iv (ww 2 f), iv 0, iv 0, iv 0, iv 0, iv 0]
  | 4, f => #[iv (ww 0 f), iv (ww 1 f), iv (ww 2 f), iv (ww 3 f), iv 0, iv 0, iv 0, iv 0]
  | 5, f => #[iv (ww 0 f), iv (ww 1 f), iv (ww 2 f), iv (ww 3 f), iv (ww 4 f), iv 0, iv 0, iv 0]
  | 6, f => #[iv (ww 0 f), iv (ww 1 f), iv (ww 2 f), iv (ww 3 f), iv (ww 4 f), iv (ww 5 f), iv 0, iv 0]
  | 7, f => #[iv (ww 0 f), iv (ww 1 f), iv (ww 2 f), iv (ww 3 f), iv (ww 4 f), iv (ww 5 f), iv (ww 6 f), iv 0]
  | _, f => #[iv (ww 0 f), iv (ww 1 f), iv (ww 2 f), iv (ww 3 f), iv (ww 4 f), iv (ww 5 f), iv (ww 6 f), iv (ww 7 f)]
theorem wsq {d : Int} (h : -1024 ≤ d) (h2 : d ≤ 1024) : wrap64 (d * d) = d * d := by
  have a : 0 ≤ d * d := by rcases Int.le_total 0 d with h | h; exact Int.mul_nonneg h h; exact Int.mul_nonneg_of_nonpos_of_nonpos h h
  have b : d * d ≤ 1024 * 1024 := by
    rcases Int.le_total 0 d with h | h
    · exact Int.mul_le_mul (by omega) (by omega) h (by omega)
    · have : (-d) * (-d) ≤ 1024 * 1024 := Int.mul_le_mul (by omega) (by omega) (by omega) (by omega)
      simpa [Int.neg_mul_neg] using this
  unfold wrap64
  omega
theorem wwn {i f d : Int} (hd : 256 * (i - 3) - f = d) (h : d < 0) (h2 : -d < 1024) : wrap64 ((1024 + d) * (1024 + d)) = ww i f := by
  unfold ww; rw [hd, if_pos h, if_pos h2, wsq (by omega) (by omega), show 1024 - -d = 1024 + d from by omega]
theorem wwp {i f d : Int} (hd : 256 * (i - 3) - f = d) (h : 0 ≤ d) (h2 : d < 1024) : wrap64 ((1024 - d) * (1024 - d)) = ww i f := by
  unfold ww; rw [hd, if_neg (by omega), if_pos h2, wsq (by omega) (by omega)]
theorem wwz {i f d : Int} (hd : 256 * (i - 3) - f = d) (h : 0 ≤ d) (h2 : 1024 ≤ d) : 0 = ww i f := by
  unfold ww; rw [hd, if_neg (by omega), if_neg (by omega)]
theorem ww3a {f : Int} (h : 0 < f) (h2 : f < 1024) : wrap64 ((1024 - f) * (1024 - f)) = ww 3 f := by
  have := wwn (i := 3) (f := f) (d := -f) (by omega) (by omega) (by omega)
  rwa [show 1024 + -f = 1024 - f from by omega] at this
theorem ww3b {f : Int} (h : 0 ≤ f) (h2 : f ≤ 0) : wrap64 ((1024 + f) * (1024 + f)) = ww 3 f := by
  obtain rfl : f = 0 := by omega
  decide +kernel
theorem wc_0 (f : Int) : wc 0 f = #[iv 0, iv 0, iv 0, iv 0, iv 0, iv 0, iv 0, iv 0] := rfl
theorem wc_1 (f : Int) : wc 1 f = #[iv (ww 0 f), iv 0, iv 0, iv 0, iv 0, iv 0, iv 0, iv 0] := rfl
theorem wc_2 (f : Int) : wc 2 f = #[iv (ww 0 f), iv (ww 1 f), iv 0, iv 0, iv 0, iv 0, iv 0, iv 0] := rfl
theorem wc_3 (f : Int) : wc 3 f = #[iv (ww 0 f), iv (ww 1 f), iv (ww 2 f), iv 0, iv 0, iv 0, iv 0, iv 0] := rfl
theorem wc_4 (f : Int) : wc 4 f = #[iv (ww 0 f), iv (ww 1 f), iv (ww 2 f), iv (ww 3 f), iv 0, iv 0, iv 0, iv 0] := rfl
theorem wc_5 (f : Int) : wc 5 f = #[iv (ww 0 f), iv (ww 1 f), iv (ww 2 f), iv (ww 3 f), iv (ww 4 f), iv 0, iv 0, iv 0] := rfl
theorem wc_6 (f : Int) : wc 6 f = #[iv (ww 0 f), iv (ww 1 f), iv (ww 2 f), iv (ww 3 f), iv (ww 4 f), iv (ww 5 f), iv 0, iv 0] := rfl
theorem wc_7 (f : Int) : wc 7 f = #[iv (ww 0 f), iv (ww 1 f), iv (ww 2 f), iv (ww 3 f), iv (ww 4 f), iv (ww 5 f), iv (ww 6 f), iv 0] := rfl
theorem wc_8 (f : Int) : wc 8 f = #[iv (ww 0 f), iv (ww 1 f), iv (ww 2 f), iv (ww 3 f), iv (ww 4 f), iv (ww 5 f), iv (ww 6 f), iv (ww 7 f)] := rfl
/-- what holds of a fraction from 0 to 255, by trying all -/
theorem by_fraction {p : Int → Prop} (h : ∀ n : Nat, n < 256 → p n) {f : Int} (h0 : 0 ≤ f) (h1 : f ≤ 255) : p f := by
  have := h f.toNat (by omega)
  rwa [Int.toNat_of_nonneg h0] at this
theorem none_any (f : Int) (w : World) : Calls Try.prog 78 #[iv f] w fun e w' => e = .returned (wv 0 f) ∧ Below w.heap.size w w' := by
  go_enter Try.func78, Try.ntmps78
  go_wp2
  exact bodyPost_ret (v := .agg #[iv 0, iv 0, iv 0, iv 1, iv 0, iv 0, iv 0, iv 0]) (by simp [results, Try.results78, go_sem]) rfl ⟨rfl, (Below.refl _ _).alloc (Nat.le_refl _) _⟩
theorem linear_any (f : Int) (w : World) (h0 : 0 ≤ f) (h1 : f ≤ 255) : Calls Try.prog 79 #[iv f] w fun e w' => e = .returned (wv 1 f) ∧ Below w.heap.size w w' := by
  go_enter Try.func79, Try.ntmps79
  go_wp2
  exact bodyPost_ret (v := .agg #[iv 0, iv 0, iv 0, iv (256 - f), iv f, iv 0, iv 0, iv 0]) (by simp [results, Try.results79, go_sem]) rfl ⟨rfl, (Below.refl _ _).alloc (Nat.le_refl _) _⟩
theorem cub2 {f : Int} (h0 : 0 ≤ f) (h1 : f ≤ 255) : wrap64 (wrap64 (wrap64 (wrap64 (-f * f) * f) + wrap64 (512 * f * f)) - 65536 * f) = -f * f * f + 512 * f * f - 65536 * f := by_fraction (p := fun f => wrap64 (wrap64 (wrap64 (wrap64 (-f * f) * f) + wrap64 (512 * f * f)) - 65536 * f) = -f * f * f + 512 * f * f - 65536 * f) (by decide +kernel) h0 h1
theorem cub3 {f : Int} (h0 : 0 ≤ f) (h1 : f ≤ 255) : wrap64 (wrap64 (wrap64 (wrap64 (3 * f * f) * f) - wrap64 (1280 * f * f)) + 33554432) = 3 * f * f * f - 1280 * f * f + 33554432 := by_fraction (p := fun f => wrap64 (wrap64 (wrap64 (wrap64 (3 * f * f) * f) - wrap64 (1280 * f * f)) + 33554432) = 3 * f * f * f - 1280 * f * f + 33554432) (by decide +kernel) h0 h1
theorem cub4 {f : Int} (h0 : 0 ≤ f) (h1 : f ≤ 255) : wrap64 (wrap64 (wrap64 (wrap64 (-3 * f * f) * f) + wrap64 (1024 * f * f)) + 65536 * f) = -3 * f * f * f + 1024 * f * f + 65536 * f := by_fraction (p := fun f => wrap64 (wrap64 (wrap64 (wrap64 (-3 * f * f) * f) + wrap64 (1024 * f * f)) + 65536 * f) = -3 * f * f * f + 1024 * f * f + 65536 * f) (by decide +kernel) h0 h1
theorem cub5 {f : Int} (h0 : 0 ≤ f) (h1 : f ≤ 255) : wrap64 (wrap64 (wrap64 (f * f) * f) - wrap64 (256 * f * f)) = f * f * f - 256 * f * f := by_fraction (p := fun f => wrap64 (wrap64 (wrap64 (f * f) * f) - wrap64 (256 * f * f)) = f * f * f - 256 * f * f) (by decide +kernel) h0 h1
theorem qua2 {f : Int} (h0 : 0 ≤ f) (h1 : f ≤ 255) : wrap64 ((256 - f) * (256 - f)) = (256 - f) * (256 - f) := by_fraction (p := fun f => wrap64 ((256 - f) * (256 - f)) = (256 - f) * (256 - f)) (by decide +kernel) h0 h1
theorem qua3 {f : Int} (h0 : 0 ≤ f) (h1 : f ≤ 255) : wrap64 (65536 + wrap64 (2 * f * (256 - f))) = 65536 + 2 * f * (256 - f) := by_fraction (p := fun f => wrap64 (65536 + wrap64 (2 * f * (256 - f))) = 65536 + 2 * f * (256 - f)) (by decide +kernel) h0 h1
theorem qua4 {f : Int} (h0 : 0 ≤ f) (h1 : f ≤ 255) : wrap64 (f * f) = f * f := by_fraction (p := fun f => wrap64 (f * f) = f * f) (by decide +kernel) h0 h1
theorem cubic_any (f : Int) (w : World) (h0 : 0 ≤ f) (h1 : f ≤ 255) : Calls Try.prog 80 #[iv f] w fun e w' => e = .returned (wv 2 f) ∧ Below w.heap.size w w' := by
  go_enter Try.func80, Try.ntmps80
  go_wp2
  rw [cub2 h0 h1, cub3 h0 h1, cub4 h0 h1, cub5 h0 h1]
  exact bodyPost_ret (v := wv 2 f) (by simp [results, Try.results80, go_sem]; exact ⟨rfl, rfl, rfl, rfl, rfl, rfl, rfl, rfl⟩) rfl ⟨rfl, (Below.refl _ _).alloc (Nat.le_refl _) _⟩
theorem quadratic_any (f : Int) (w : World) (h0 : 0 ≤ f) (h1 : f ≤ 255) : Calls Try.prog 81 #[iv f] w fun e w' => e = .returned (wv 3 f) ∧ Below w.heap.size w w' := by
  go_enter Try.func81, Try.ntmps81
  go_wp2
  rw [qua2 h0 h1, qua3 h0 h1, qua4 h0 h1]
  exact bodyPost_ret (v := wv 3 f) (by simp [results, Try.results81, go_sem]; exact ⟨rfl, rfl, rfl, rfl, rfl, rfl, rfl, rfl⟩) rfl ⟨rfl, (Below.refl _ _).alloc (Nat.le_refl _) _⟩
set_option maxHeartbeats 2000000 in
theorem wide_any (f : Int) (w : World) (h0 : 0 ≤ f) (h1 : f ≤ 255) : Calls Try.prog 82 #[iv f] w fun e w' => e = .returned (wv 4 f) ∧ Below w.heap.size w w' := by
  go_enter Try.func82, Try.ntmps82
  go_wp2
  go_loopw [6] (fun c wr => ∃ k : Nat, k ≤ 8 ∧ c = iv k ∧ wr = (w.alloc (.cells (wc 0 f) 86)).alloc (.cells (wc k f) 86)) (fun c _ => 8 - (intOf c).toNat)
  case atStart => exact ⟨0, by omega, rfl, rfl⟩
  case round =>
    obtain ⟨k, hk, rfl, rfl⟩ := hrel
    rcases (by omega : k = 0 ∨ k = 1 ∨ k = 2 ∨ k = 3 ∨ k = 4 ∨ k = 5 ∨ k = 6 ∨ k = 7 ∨ k = 8) with rfl | rfl | rfl | rfl | rfl | rfl | rfl | rfl | rfl
    · simp only [wc_0]
      go_wp2
      all_goals (refine ⟨⟨1, by omega, rfl, ?_⟩, by simp [intOf]⟩; first | (rw [wwn (i := 0) (f := f) (by omega) (by omega) (by omega)]; rfl) | (rw [wwp (i := 0) (f := f) (by omega) (by omega) (by omega)]; rfl) | (rw [wc_1, ← wwz (i := 0) (f := f) rfl (by omega) (by omega)]))
    · simp only [wc_0, wc_1]
      go_wp2
      all_goals (refine ⟨⟨2, by omega, rfl, ?_⟩, by simp [intOf]⟩; first | (rw [wwn (i := 1) (f := f) (by omega) (by omega) (by omega)]; rfl) | (rw [wwp (i := 1) (f := f) (by omega) (by omega) (by omega)]; rfl) | (rw [wc_2, ← wwz (i := 1) (f := f) rfl (by omega) (by omega)]))
    · simp only [wc_0, wc_2]
      go_wp2
      all_goals (refine ⟨⟨3, by omega, rfl, ?_⟩, by simp [intOf]⟩; first | (rw [wwn (i := 2) (f := f) (by omega) (by omega) (by omega)]; rfl) | (rw [wwp (i := 2) (f := f) (by omega) (by omega) (by omega)]; rfl) | (rw [wc_3, ← wwz (i := 2) (f := f) rfl (by omega) (by omega)]))
    · simp only [wc_0, wc_3]
      go_wp2
      all_goals (refine ⟨⟨4, by omega, rfl, ?_⟩, by simp [intOf]⟩; first | (rw [ww3a (by omega) (by omega)]; rfl) | (rw [ww3b (by omega) (by omega)]; rfl) | (rw [wwn (i := 3) (f := f) (by omega) (by omega) (by omega)]; rfl) | (rw [wwp (i := 3) (f := f) (by omega) (by omega) (by omega)]; rfl) | (rw [wc_4, ← wwz (i := 3) (f := f) rfl (by omega) (by omega)]))
    · simp only [wc_0, wc_4]
      go_wp2
      all_goals (refine ⟨⟨5, by omega, rfl, ?_⟩, by simp [intOf]⟩; first | (rw [wwn (i := 4) (f := f) (by omega) (by omega) (by omega)]; rfl) | (rw [wwp (i := 4) (f := f) (by omega) (by omega) (by omega)]; rfl) | (rw [wc_5, ← wwz (i := 4) (f := f) rfl (by omega) (by omega)]))
    · simp only [wc_0, wc_5]
      go_wp2
      all_goals (refine ⟨⟨6, by omega, rfl, ?_⟩, by simp [intOf]⟩; first | (rw [wwn (i := 5) (f := f) (by omega) (by omega) (by omega)]; rfl) | (rw [wwp (i := 5) (f := f) (by omega) (by omega) (by omega)]; rfl) | (rw [wc_6, ← wwz (i := 5) (f := f) rfl (by omega) (by omega)]))
    · simp only [wc_0, wc_6]
      go_wp2
      all_goals (refine ⟨⟨7, by omega, rfl, ?_⟩, by simp [intOf]⟩; first | (rw [wwn (i := 6) (f := f) (by omega) (by omega) (by omega)]; rfl) | (rw [wwp (i := 6) (f := f) (by omega) (by omega) (by omega)]; rfl) | (rw [wc_7, ← wwz (i := 6) (f := f) rfl (by omega) (by omega)]))
    · simp only [wc_0, wc_7]
      go_wp2
      all_goals (refine ⟨⟨8, by omega, rfl, ?_⟩, by simp [intOf]⟩; first | (rw [wwn (i := 7) (f := f) (by omega) (by omega) (by omega)]; rfl) | (rw [wwp (i := 7) (f := f) (by omega) (by omega) (by omega)]; rfl) | (rw [wc_8, ← wwz (i := 7) (f := f) rfl (by omega) (by omega)]))
    · simp only [wc_0, wc_8]
      go_wp2
      exact bodyPost_ret (v := wv 4 f) (by simp [results, Try.results82, go_sem]; exact ⟨rfl, rfl, rfl, rfl, rfl, rfl, rfl, rfl⟩) rfl ⟨rfl, ((Below.refl _ _).alloc (Nat.le_refl _) _).alloc (by simp) _⟩
def curvesV : Value := .agg #[.func (Fn.func 78) #[] #[], iv 0, .func (Fn.func 79) #[] #[], iv 8, .func (Fn.func 80) #[] #[], iv 25, .func (Fn.func 81) #[] #[], iv 17, .func (Fn.func 82) #[] #[], iv (-1)]
theorem curves_any (w : World) : Calls Try.prog 69 #[] w fun e w' => e = .returned curvesV ∧ Below w.heap.size w w' := by
  go_enter Try.func69, Try.ntmps69
  go_wp2
  exact bodyPost_ret (v := curvesV) (by simp [results, Try.results69, go_sem]; rfl) rfl ⟨rfl, (Below.refl _ _).alloc (Nat.le_refl _) _⟩
/-- a kind, as a value: its function and its shift -/
def curveV : Nat → Value
  | 0 => .agg #[.func (Fn.func 78) #[] #[], iv 0]
  | 1 => .agg #[.func (Fn.func 79) #[] #[], iv 8]
  | 2 => .agg #[.func (Fn.func 80) #[] #[], iv 25]
  | 3 => .agg #[.func (Fn.func 81) #[] #[], iv 17]
  | _ => .agg #[.func (Fn.func 82) #[] #[], iv (-1)]
/-- a row of whole numbers that is only read, out of the block in which it lies -/
theorem V_blk {w : World} {b : Nat} {cs : Array Value} {t : TypeId} {xs : List Int} {n c base : Nat} {ok : Nat → Prop} (hb : w.heap[b]? = some (.cells cs t (0, 0))) (hx : ∀ j, j < n → cs[j]? = some (Value.int .i64 (xs.getD j 0))) (hn : xs.length = n) (hc : n ≤ c) (hm : n ≤ 9223372036854775807) (hok : ok b) : Kd.V (Kd.int .i64) 3 w base ok (.slice (some ⟨b, 0, none⟩) n c) xs := by
  subst hn
  refine Kd.V_mk hc ?_
  intro W' hW
  have hb' : W'.heap[b]? = some (.cells cs t (0, 0)) := (hW b hok (blk_lt hb)).trans hb
  refine Kd.C_of_reads (d := (0 : Int)) ⟨rfl, hm, fun _ => ⟨⟨b, 0, none⟩, rfl, fun j hj => ?_⟩⟩
  have h1 : (⟨b, 0, none⟩ : Addr).add j = ⟨b, j, none⟩ := by
    unfold Addr.add
    split
    · next h => subst h; rfl
    · simp
  rw [h1]
  exact (blk_cell hb' j).trans (hx j hj)


end Go.Proofs.Ytejnhhjldddbdaa.PG

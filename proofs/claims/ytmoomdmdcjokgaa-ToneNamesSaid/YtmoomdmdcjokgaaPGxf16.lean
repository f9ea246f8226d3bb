/- Written by a program of this session (wip/tools/xprint.py, over the functions of the kit's print): functions of the given program as Lean functions, each with its contract, or a law's row; no condition. -/
import Derived.Test.YtmoomdmdcjokgaaPGx0
import Derived.Test.YtmoomdmdcjokgaaPGxf33
import Derived.Test.YtmoomdmdcjokgaaPGxf36
namespace Go.Proofs.Ytmoomdmdcjokgaa.PG
open Go.RowKit Go.Proofs.YtmoomdmdcjokgaaW.PrintWords Go.Proofs.YtmoomdmdcjokgaaW.PrintLast Go.Proofs.YtmoomdmdcjokgaaW.PrintMore
attribute [local go_sem] max2_int min2_int max_two min_two max_three min_three max_four min_four   -- for this text's walks alone
set_option linter.unusedVariables false
set_option linter.unusedSimpArgs false

/-! ### tone_Name: function 16 (a text of this session) -/
def keyB (i : Nat) : ByteArray := ([(⟨#[67, 45]⟩ : ByteArray), (⟨#[67, 35]⟩ : ByteArray), (⟨#[68, 45]⟩ : ByteArray), (⟨#[68, 35]⟩ : ByteArray), (⟨#[69, 45]⟩ : ByteArray), (⟨#[70, 45]⟩ : ByteArray), (⟨#[70, 35]⟩ : ByteArray), (⟨#[71, 45]⟩ : ByteArray), (⟨#[71, 35]⟩ : ByteArray), (⟨#[65, 45]⟩ : ByteArray), (⟨#[65, 35]⟩ : ByteArray), (⟨#[66, 45]⟩ : ByteArray)] : List ByteArray).getD i ByteArray.empty
theorem key_size : ∀ i : Nat, i < 12 → (keyB i).size = 2 := by decide
def digB (q : Nat) : ByteArray := Utf8.encode (48 + q)
theorem dig_size : ∀ q : Nat, q < 10 → (digB q).size = 1 := by decide
def nameB (n : Nat) : ByteArray := keyB (n % 12) ++ digB (n / 12)
def tone_Name.f (a0 : Int) : Option (ByteArray) := if 0 ≤ a0 then (if a0 ≤ 119 then some (nameB a0.toNat) else some (⟨#[]⟩ : ByteArray)) else some (⟨#[]⟩ : ByteArray)
theorem addr_add (g j : Nat) : (⟨g, 0, none⟩ : Addr).add j = ⟨g, j, none⟩ := by
  unfold Addr.add
  split
  · next h => subst h; rfl
  · simp
theorem R_strs {e : Nat} {w : World} {base : Nat} {ok : Nat → Prop} {v : Value} {xs : List ByteArray} (h : Kd.string.R e w base ok v xs) (hx : 0 < xs.length) :
    ∃ g c, v = .slice (some ⟨g, 0, none⟩) xs.length c ∧ xs.length ≤ c ∧ base ≤ g ∧ g < w.heap.size ∧ ∀ j, j < xs.length → w.cell? ⟨g, j, none⟩ = some (.string (xs.getD j ByteArray.empty)) := by
  obtain ⟨inner, ho⟩ := Kd.R_own h
  rcases ho.2 with ⟨_, h0⟩ | ⟨g, cap, cur, rfl, hg, hh, hn, _⟩
  · omega
  · obtain ⟨_, _, hz⟩ := Kd.reads_of_C (d := ByteArray.empty) (Kd.R_reads' h).2.2
    obtain ⟨ad, ha, hcell⟩ := hz hx
    obtain rfl := Option.some.inj ha
    refine ⟨g, cap, rfl, hn, hg, blk_lt hh, fun j hj => ?_⟩
    rw [← addr_add]
    exact hcell j hj
theorem name_out (a0 : Int) (h : tone_in.f a0 0 119 = some false) (w : World) :
    Calls Try.prog 16 #[.int .i64 a0] w fun e w' => e = .returned (.string ⟨#[]⟩) ∧ Below w.heap.size w w' := by
  have HH := Lib.hid h
  clear h
  go_enter Try.func16, Try.ntmps16
  go_wp2_with (go_at_call 33; refine (tone_in.calls a0 0 119 false _ HH.out).mono ?_; rintro e w1 ⟨rfl, hd⟩)
  go_ret
  exact ⟨rfl, hd.below⟩
set_option maxRecDepth 100000 in
theorem name_in (n : Nat) (hn : n ≤ 119) (w : World) :
    Calls Try.prog 16 #[.int .i64 n] w fun e w' => e = .returned (.string (nameB n)) ∧ Below w.heap.size w w' := by
  have HH : Hid (tone_in.f n 0 119 = some true) := by show tone_in.f n 0 119 = some true; unfold tone_in.f; rw [if_pos (by omega), decide_eq_true (by omega)]
  have hks := key_size (n % 12) (by omega)
  have hds := dig_size (n / 12) (by omega)
  have HN : Hid (tone_names.f = some _) := Lib.hid rfl
  have e1 : (n : Int) ≤ 119 := by omega
  clear hn
  go_enter Try.func16, Try.ntmps16
  go_wp2_with fail
  refine (tone_in.calls n 0 119 true _ HH.out).mono ?_
  rintro e w1 ⟨rfl, hd⟩
  clear HH
  go_wp2_with fail
  refine (tone_names.calls _ _ HN.out).mono ?_
  rintro e w2 ⟨v, rfl, hr, hb⟩
  clear HN
  obtain ⟨g, c, rfl, hc12, _, _, hcell⟩ := R_strs hr (by decide)
  clear hr
  have hc0 : w2.cell? ⟨g, n % 12, none⟩ = some (.string (keyB (n % 12))) := hcell (n % 12) (Nat.mod_lt _ (by decide))
  clear hcell
  have h12 : 12 ≤ c := hc12
  clear hc12
  have hw : wrap32 (wrap64 (48 + wrap64 ((n : Int) / 12))) = 48 + ((n / 12 : Nat) : Int) := by
    have e : wrap64 ((n : Int) / 12) = (n : Int) / 12 := by unfold wrap64; omega
    rw [e]
    have e2 : wrap64 (48 + (n : Int) / 12) = 48 + (n : Int) / 12 := by unfold wrap64; omega
    rw [e2]
    unfold wrap32
    omega
  have hds2 : (Utf8.encode (wrap32 (wrap64 (48 + wrap64 ((n : Int) / 12))))).size = 1 := by rw [hw]; exact hds
  have HW := Lib.hid hw
  have H0 := Lib.hid hd
  clear hds e1 hw
  go_wp2
  go_ret
  refine ⟨?_, H0.out.below.trans (hb.mono H0.out.below.size)⟩
  show Ending.returned (.string (keyB (n % 12) ++ Utf8.encode (wrap32 (wrap64 (48 + wrap64 ((n : Int) / 12)))))) = _
  rw [HW.out]
  rfl
theorem tone_Name.calls (a0 : Int) (r : ByteArray) (w : World) (h : tone_Name.f a0 = some r) :
    Calls Try.prog 16 #[.int .i64 a0] w fun e w' => e = .returned (.string r) ∧ Below w.heap.size w w' := by
  unfold tone_Name.f at h
  by_cases c0 : 0 ≤ a0
  · rw [if_pos c0] at h
    by_cases c1 : a0 ≤ 119
    · rw [if_pos c1] at h
      obtain rfl := Option.some.inj h
      have := name_in a0.toNat (by omega) w
      rwa [Int.toNat_of_nonneg c0] at this
    · rw [if_neg c1] at h
      obtain rfl := Option.some.inj h
      exact name_out a0 (by unfold tone_in.f; rw [if_pos c0, decide_eq_false c1]) w
  · rw [if_neg c0] at h
    obtain rfl := Option.some.inj h
    exact name_out a0 (by unfold tone_in.f; rw [if_neg c0]) w

end Go.Proofs.Ytmoomdmdcjokgaa.PG

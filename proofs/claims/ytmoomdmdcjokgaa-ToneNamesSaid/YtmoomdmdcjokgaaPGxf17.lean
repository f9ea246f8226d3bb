/- Written by a program of this session (wip/tools/xprint.py, over the functions of the kit's print): functions of the given program as Lean functions, each with its contract, or a law's row; no condition. -/
import Derived.Test.YtmoomdmdcjokgaaPGx0
import Derived.Test.YtmoomdmdcjokgaaPGxf37
import Derived.Test.YtmoomdmdcjokgaaPGxf38
import Derived.Test.YtmoomdmdcjokgaaPGxf16
namespace Go.Proofs.Ytmoomdmdcjokgaa.PG
open Go.RowKit Go.Proofs.YtmoomdmdcjokgaaW.PrintWords Go.Proofs.YtmoomdmdcjokgaaW.PrintLast Go.Proofs.YtmoomdmdcjokgaaW.PrintMore
attribute [local go_sem] max2_int min2_int max_two min_two max_three min_three max_four min_four   -- for this text's walks alone
set_option linter.unusedVariables false
set_option linter.unusedSimpArgs false

/-! ### orchestrionref01_Name: function 17 (a text of this session) -/
def orchestrionref01_Name.f (a0 : Int) : Option (ByteArray) := if 0 ≤ a0 then (if a0 ≤ 119 then some (nameB a0.toNat) else some (⟨#[]⟩ : ByteArray)) else some (⟨#[]⟩ : ByteArray)
theorem ref_key : ∀ n : Nat, n < 12 → orchestrionref01_key.f n = some (keyB n) := by decide +kernel
theorem ref_dig : ∀ q : Nat, q < 10 → strOfNums [48 + (q : Int)] = digB q := by decide +kernel
theorem ref_name_out (a0 : Int) (h : orchestrionref01_within.f a0 0 119 = some false) (w : World) :
    Calls Try.prog 17 #[.int .i64 a0] w fun e w' => e = .returned (.string ⟨#[]⟩) ∧ Below w.heap.size w w' := by
  have HH := Lib.hid h
  clear h
  go_enter Try.func17, Try.ntmps17
  go_wp2_with (go_at_call 37; refine (orchestrionref01_within.calls a0 0 119 false _ HH.out).mono ?_; rintro e w1 ⟨rfl, hd⟩)
  go_ret
  exact ⟨rfl, hd.below⟩
set_option maxRecDepth 100000 in
theorem ref_name_in (n : Nat) (hn : n ≤ 119) (w : World) :
    Calls Try.prog 17 #[.int .i64 n] w fun e w' => e = .returned (.string (nameB n)) ∧ Below w.heap.size w w' := by
  have HH : Hid (orchestrionref01_within.f n 0 119 = some true) := by show orchestrionref01_within.f n 0 119 = some true; unfold orchestrionref01_within.f; rw [if_pos (by omega), decide_eq_true (by omega)]
  have HK : Hid (orchestrionref01_key.f ((n % 12 : Nat) : Int) = some (keyB (n % 12))) := ref_key (n % 12) (by omega)
  have hks := key_size (n % 12) (by omega)
  have hds := dig_size (n / 12) (by omega)
  go_enter Try.func17, Try.ntmps17
  go_wp2_with (go_at_call 37; refine (orchestrionref01_within.calls n 0 119 true _ HH.out).mono ?_; rintro e w1 ⟨rfl, hd⟩)
  have hcv : ∀ m : Nat, (convert 39 9 (.slice (some ⟨w1.heap.size, 0, none⟩) 1 1)).run Try.prog ((w1.drewN m).alloc (.cells #[.int .u8 (IntKind.u8.wrap (48 + IntKind.u8.wrap (IntKind.i64.wrap ((n : Int) / 12))))] 5)) = .ok (.string (digB (n / 12))) ((w1.drewN m).alloc (.cells #[.int .u8 (IntKind.u8.wrap (48 + IntKind.u8.wrap (IntKind.i64.wrap ((n : Int) / 12))))] 5)) := by
    intro m
    have ev : IntKind.u8.wrap (48 + IntKind.u8.wrap (IntKind.i64.wrap ((n : Int) / 12))) = 48 + ((n / 12 : Nat) : Int) := by
      rw [xu8_w, xu8_w, IntKind.wrap_i64]
      omega
    rw [run_convert_bytes_arg _ 39 5 Try.underlying39 Try.underlying5 w1.heap.size 0 1 1 [48 + ((n / 12 : Nat) : Int)] rfl (fun i hi => ?_) 9 Try.underlying9, ref_dig (n / 12) (by omega)]
    obtain rfl : i = 0 := by omega
    rw [ev]
    exact (blk_cell (heap_alloc_new (w1.drewN m) _) 0)
  have hcv2 : ∀ m : Nat, (convert 39 9 (.slice (some ⟨w1.heap.size, 0, none⟩) 1 1)).run Try.prog ((w1.alloc (.cells #[.int .u8 (IntKind.u8.wrap (48 + IntKind.u8.wrap (IntKind.i64.wrap ((n : Int) / 12))))] 5)).drewN m) = .ok (.string (digB (n / 12))) ((w1.alloc (.cells #[.int .u8 (IntKind.u8.wrap (48 + IntKind.u8.wrap (IntKind.i64.wrap ((n : Int) / 12))))] 5)).drewN m) := hcv
  have hcv3 := hcv2 1
  have hcv4 : (convert 39 9 (.slice (some ⟨w1.heap.size, 0, none⟩) 1 1)).run Try.prog ((w1.alloc (.cells #[.int .u8 (IntKind.u8.wrap (48 + IntKind.u8.wrap (IntKind.i64.wrap ((n : Int) / 12))))] 5)).drew) = .ok (.string (digB (n / 12))) ((w1.alloc (.cells #[.int .u8 (IntKind.u8.wrap (48 + IntKind.u8.wrap (IntKind.i64.wrap ((n : Int) / 12))))] 5)).drew) := hcv 1
  go_region_with (go_at_call 38; go_must (refine (orchestrionref01_key.calls _ (keyB (n % 12)) _ HK.out).mono ?_; rintro e w2 ⟨rfl, ⟨nd, rfl⟩⟩))
  all_goals go_wp2
  all_goals go_ret
  all_goals exact ⟨rfl, by repeat (first | exact hd.below | apply below_alloc | apply pw_below_drewN | apply below_drew1)⟩
theorem orchestrionref01_Name.calls (a0 : Int) (r : ByteArray) (w : World) (h : orchestrionref01_Name.f a0 = some r) :
    Calls Try.prog 17 #[.int .i64 a0] w fun e w' => e = .returned (.string r) ∧ Below w.heap.size w w' := by
  unfold orchestrionref01_Name.f at h
  by_cases c0 : 0 ≤ a0
  · rw [if_pos c0] at h
    by_cases c1 : a0 ≤ 119
    · rw [if_pos c1] at h
      obtain rfl := Option.some.inj h
      have := ref_name_in a0.toNat (by omega) w
      rwa [Int.toNat_of_nonneg c0] at this
    · rw [if_neg c1] at h
      obtain rfl := Option.some.inj h
      exact ref_name_out a0 (by unfold orchestrionref01_within.f; rw [if_pos c0, decide_eq_false c1]) w
  · rw [if_neg c0] at h
    obtain rfl := Option.some.inj h
    exact ref_name_out a0 (by unfold orchestrionref01_within.f; rw [if_neg c0]) w

end Go.Proofs.Ytmoomdmdcjokgaa.PG

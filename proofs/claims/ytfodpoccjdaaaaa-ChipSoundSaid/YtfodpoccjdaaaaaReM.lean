/- Four operators: the program's Sound, walked. -/
import Derived.Test.YtfodpoccjdaaaaaReN
namespace Go.Proofs.Ytfodpoccjdaaaaa.CS
open Go.RowKit Go.Proofs.YtfodpoccjdaaaaaW.PrintLast Go.Proofs.Ytfodpoccjdaaaaa.TX Go.Proofs.Ytfodpoccjdaaaaa.PG
set_option linter.unusedVariables false
set_option linter.unusedSimpArgs false
set_option maxHeartbeats 16000000 in
set_option maxRecDepth 100000 in
theorem snd_bad (p : RP) (fr ou on : Int) (n : Int) (hv : vpB p = false) (w : World) : Calls Try.prog 41 #[.agg p.cs, iv fr, iv ou, iv on, iv n] w fun e w' => e = .returned (.tuple #[.slice none 0 0, iv 1]) ∧ Below w.heap.size w w' := by
  have B0 : Below w.heap.size w (w.alloc (Obj.cells p.cs 52)) := (Below.refl _ _).alloc (Nat.le_refl _) _
  have P0 := Lib.hid (heap_alloc_new w (Obj.cells p.cs 52))
  have VC := Lib.hid fun (W : World) => vp_any p W
  rw [hv] at VC
  clear hv
  go_enter Try.func41, Try.ntmps41
  go_wp2_with (first
    | (refine wpList_load_row rfl 52 (.tmp 5) rfl (w.heap.size) rfl 52 _ (0, 0) _ P0.out Try.underlying52 rfl (RP.i52 p) ?_)
    | (go_at_call 44; (with_reducible refine (VC.out _).mono ?_); rintro e w1 ⟨rfl, hb1⟩; have P1 := Lib.hid (bkBelow P0.out hb1); have B1 := bdT B0 B0.size hb1; clear hb1))
  go_ret2
  exact ⟨rfl, B1⟩
set_option maxHeartbeats 16000000 in
set_option maxRecDepth 100000 in
theorem snd_r0 (p : RP) (fr ou on : Int) (n : Int) (hv : vpB p = true) (h0 : ¬ (0 ≤ n ∧ n ≤ 200000)) (w : World) : Calls Try.prog 41 #[.agg p.cs, iv fr, iv ou, iv on, iv n] w fun e w' => e = .returned (.tuple #[.slice none 0 0, iv 5]) ∧ Below w.heap.size w w' := by
  have B0 : Below w.heap.size w (w.alloc (Obj.cells p.cs 52)) := (Below.refl _ _).alloc (Nat.le_refl _) _
  have P0 := Lib.hid (heap_alloc_new w (Obj.cells p.cs 52))
  have VC := Lib.hid fun (W : World) => vp_any p W
  rw [hv] at VC
  clear hv
  go_enter Try.func41, Try.ntmps41
  go_wp2_with (first
    | (refine wpList_load_row rfl 52 (.tmp 5) rfl (w.heap.size) rfl 52 _ (0, 0) _ P0.out Try.underlying52 rfl (RP.i52 p) ?_)
    | (go_at_call 44; (with_reducible refine (VC.out _).mono ?_); rintro e w1 ⟨rfl, hb1⟩; have P1 := Lib.hid (bkBelow P0.out hb1); have B1 := bdT B0 B0.size hb1; clear hb1)
    | (go_at_call 102; (with_reducible refine (cin_no n 0 200000 _ (by omega)).mono ?_); rintro e w9 ⟨rfl, rfl⟩))
  go_ret2
  exact ⟨rfl, B1⟩
set_option maxHeartbeats 16000000 in
set_option maxRecDepth 100000 in
theorem snd_r1 (p : RP) (fr ou on : Int) (n : Int) (hv : vpB p = true) (h0 : 0 ≤ n ∧ n ≤ 200000) (h1 : ¬ (0 ≤ fr ∧ fr ≤ 16777216)) (w : World) : Calls Try.prog 41 #[.agg p.cs, iv fr, iv ou, iv on, iv n] w fun e w' => e = .returned (.tuple #[.slice none 0 0, iv 5]) ∧ Below w.heap.size w w' := by
  have B0 : Below w.heap.size w (w.alloc (Obj.cells p.cs 52)) := (Below.refl _ _).alloc (Nat.le_refl _) _
  have P0 := Lib.hid (heap_alloc_new w (Obj.cells p.cs 52))
  have VC := Lib.hid fun (W : World) => vp_any p W
  rw [hv] at VC
  clear hv
  go_enter Try.func41, Try.ntmps41
  go_wp2_with (first
    | (refine wpList_load_row rfl 52 (.tmp 5) rfl (w.heap.size) rfl 52 _ (0, 0) _ P0.out Try.underlying52 rfl (RP.i52 p) ?_)
    | (go_at_call 44; (with_reducible refine (VC.out _).mono ?_); rintro e w1 ⟨rfl, hb1⟩; have P1 := Lib.hid (bkBelow P0.out hb1); have B1 := bdT B0 B0.size hb1; clear hb1)
    | (go_at_call 102; (with_reducible refine (cin_yes n 0 200000 _ (by omega) (by omega)).mono ?_); rintro e w9 ⟨rfl, rfl⟩)
    | (go_at_call 102; (with_reducible refine (cin_no fr 0 16777216 _ (by omega)).mono ?_); rintro e w9 ⟨rfl, rfl⟩))
  go_ret2
  exact ⟨rfl, B1⟩
set_option maxHeartbeats 16000000 in
set_option maxRecDepth 100000 in
theorem snd_r2 (p : RP) (fr ou on : Int) (n : Int) (hv : vpB p = true) (h0 : 0 ≤ n ∧ n ≤ 200000) (h1 : 0 ≤ fr ∧ fr ≤ 16777216) (h2 : ¬ (1000 ≤ ou ∧ ou ≤ 96000)) (w : World) : Calls Try.prog 41 #[.agg p.cs, iv fr, iv ou, iv on, iv n] w fun e w' => e = .returned (.tuple #[.slice none 0 0, iv 5]) ∧ Below w.heap.size w w' := by
  have B0 : Below w.heap.size w (w.alloc (Obj.cells p.cs 52)) := (Below.refl _ _).alloc (Nat.le_refl _) _
  have P0 := Lib.hid (heap_alloc_new w (Obj.cells p.cs 52))
  have VC := Lib.hid fun (W : World) => vp_any p W
  rw [hv] at VC
  clear hv
  go_enter Try.func41, Try.ntmps41
  go_wp2_with (first
    | (refine wpList_load_row rfl 52 (.tmp 5) rfl (w.heap.size) rfl 52 _ (0, 0) _ P0.out Try.underlying52 rfl (RP.i52 p) ?_)
    | (go_at_call 44; (with_reducible refine (VC.out _).mono ?_); rintro e w1 ⟨rfl, hb1⟩; have P1 := Lib.hid (bkBelow P0.out hb1); have B1 := bdT B0 B0.size hb1; clear hb1)
    | (go_at_call 102; (with_reducible refine (cin_yes n 0 200000 _ (by omega) (by omega)).mono ?_); rintro e w9 ⟨rfl, rfl⟩)
    | (go_at_call 102; (with_reducible refine (cin_yes fr 0 16777216 _ (by omega) (by omega)).mono ?_); rintro e w9 ⟨rfl, rfl⟩)
    | (go_at_call 102; (with_reducible refine (cin_no ou 1000 96000 _ (by omega)).mono ?_); rintro e w9 ⟨rfl, rfl⟩))
  go_ret2
  exact ⟨rfl, B1⟩
set_option maxHeartbeats 16000000 in
set_option maxRecDepth 100000 in
theorem snd_r3 (p : RP) (fr ou on : Int) (n : Int) (hv : vpB p = true) (h0 : 0 ≤ n ∧ n ≤ 200000) (h1 : 0 ≤ fr ∧ fr ≤ 16777216) (h2 : 1000 ≤ ou ∧ ou ≤ 96000) (h3 : ¬ (0 ≤ on ∧ on ≤ 200000)) (w : World) : Calls Try.prog 41 #[.agg p.cs, iv fr, iv ou, iv on, iv n] w fun e w' => e = .returned (.tuple #[.slice none 0 0, iv 5]) ∧ Below w.heap.size w w' := by
  have B0 : Below w.heap.size w (w.alloc (Obj.cells p.cs 52)) := (Below.refl _ _).alloc (Nat.le_refl _) _
  have P0 := Lib.hid (heap_alloc_new w (Obj.cells p.cs 52))
  have VC := Lib.hid fun (W : World) => vp_any p W
  rw [hv] at VC
  clear hv
  go_enter Try.func41, Try.ntmps41
  go_wp2_with (first
    | (refine wpList_load_row rfl 52 (.tmp 5) rfl (w.heap.size) rfl 52 _ (0, 0) _ P0.out Try.underlying52 rfl (RP.i52 p) ?_)
    | (go_at_call 44; (with_reducible refine (VC.out _).mono ?_); rintro e w1 ⟨rfl, hb1⟩; have P1 := Lib.hid (bkBelow P0.out hb1); have B1 := bdT B0 B0.size hb1; clear hb1)
    | (go_at_call 102; (with_reducible refine (cin_yes n 0 200000 _ (by omega) (by omega)).mono ?_); rintro e w9 ⟨rfl, rfl⟩)
    | (go_at_call 102; (with_reducible refine (cin_yes fr 0 16777216 _ (by omega) (by omega)).mono ?_); rintro e w9 ⟨rfl, rfl⟩)
    | (go_at_call 102; (with_reducible refine (cin_yes ou 1000 96000 _ (by omega) (by omega)).mono ?_); rintro e w9 ⟨rfl, rfl⟩)
    | (go_at_call 102; (with_reducible refine (cin_no on 0 200000 _ (by omega)).mono ?_); rintro e w9 ⟨rfl, rfl⟩))
  go_ret2
  exact ⟨rfl, B1⟩
set_option maxHeartbeats 16000000 in
set_option maxRecDepth 100000 in
theorem snd_ok (p : RP) (fr ou on : Int) (n : Int) (hv : vpB p = true) (hq : ∀ i, 4 ≤ i → p.pt.o i = p.pt.o 3) (h0 : 0 ≤ n ∧ n ≤ 200000) (h1 : 0 ≤ fr ∧ fr ≤ 16777216) (h2 : 1000 ≤ ou ∧ ou ≤ 96000) (h3 : 0 ≤ on ∧ on ≤ 200000) (w : World) : Calls Try.prog 41 #[.agg p.cs, iv fr, iv ou, iv on, iv n] w fun e w' => ∃ g, e = .returned (.tuple #[.slice (some ⟨g, 0, none⟩) n.toNat n.toNat, iv 0]) ∧ w'.heap[g]? = some (.cells (fb_ (fun k => iv (frameS p.pt (fr * 16384 / ou) on k)) n.toNat) 3 (0, 0)) ∧ Below w.heap.size w w' := by
  have B0 : Below w.heap.size w (w.alloc (Obj.cells p.cs 52)) := (Below.refl _ _).alloc (Nat.le_refl _) _
  have P0 := Lib.hid (heap_alloc_new w (Obj.cells p.cs 52))
  have VC := Lib.hid fun (W : World) => vp_any p W
  have hpo := (of_decide_eq_true (show decide p.Ok = true from hv))
  rw [hv] at VC
  have HP := Lib.hid hpo
  have HAL := Lib.hid (show ∀ i, (p.o i).Ok from PT_all (p := p.pt) (fun i hi => hpo.at_ hi) hq)
  clear hv hpo hq
  have IX := Lib.hid (index_op p)
  obtain ⟨n0, n1⟩ := h0
  obtain ⟨f0, f1⟩ := h1
  obtain ⟨o0, o1⟩ := h2
  obtain ⟨k0, k1⟩ := h3
  go_enter Try.func41, Try.ntmps41
  go_upto_region 3 with (first
    | (refine wpList_load_row rfl 52 (.tmp 5) rfl (w.heap.size) rfl 52 _ (0, 0) _ P0.out Try.underlying52 rfl (RP.i52 p) ?_)
    | (go_at_call 44; (with_reducible refine (VC.out _).mono ?_); rintro e w1 ⟨rfl, hb1⟩; have P1 := Lib.hid (bkBelow P0.out hb1); have B1 := bdT B0 B0.size hb1; clear hb1))
  go_upto_region 6 with (first
    | (go_at_call 102; (with_reducible refine (cin_yes n 0 200000 _ (by omega) (by omega)).mono ?_); rintro e w9 ⟨rfl, rfl⟩)
    | (go_at_call 102; (with_reducible refine (cin_yes fr 0 16777216 _ (by omega) (by omega)).mono ?_); rintro e w9 ⟨rfl, rfl⟩)
    | (go_at_call 102; (with_reducible refine (cin_yes ou 1000 96000 _ (by omega) (by omega)).mono ?_); rintro e w9 ⟨rfl, rfl⟩)
    | (go_at_call 102; (with_reducible refine (cin_yes on 0 200000 _ (by omega) (by omega)).mono ?_); rintro e w9 ⟨rfl, rfl⟩))
  have PI := Lib.hid (bkAlloc P1.out (Obj.cells #[iv 0, iv 0, iv 0, iv 0, iv 0, iv 0, iv 0, iv 0, .bool false, iv 0, iv 0, iv 0, iv 0, iv 0, iv 0, iv 0, iv 0, .bool false, iv 0, iv 0, iv 0, iv 0, iv 0, iv 0, iv 0, iv 0, .bool false, iv 0, iv 0, iv 0, iv 0, iv 0, iv 0, iv 0, iv 0, .bool false] 109))
  have VI := Lib.hid (show (w1.alloc (Obj.cells #[iv 0, iv 0, iv 0, iv 0, iv 0, iv 0, iv 0, iv 0, .bool false, iv 0, iv 0, iv 0, iv 0, iv 0, iv 0, iv 0, iv 0, .bool false, iv 0, iv 0, iv 0, iv 0, iv 0, iv 0, iv 0, iv 0, .bool false, iv 0, iv 0, iv 0, iv 0, iv 0, iv 0, iv 0, iv 0, .bool false] 109)).heap[w1.heap.size]? = some (.cells (fb_ (vcI p 0) 36) 109 (0, 0)) from by rw [init_zero]; exact heap_alloc_new w1 _)
  have BI := B1.alloc B1.size (Obj.cells #[iv 0, iv 0, iv 0, iv 0, iv 0, iv 0, iv 0, iv 0, .bool false, iv 0, iv 0, iv 0, iv 0, iv 0, iv 0, iv 0, iv 0, .bool false, iv 0, iv 0, iv 0, iv 0, iv 0, iv 0, iv 0, iv 0, .bool false, iv 0, iv 0, iv 0, iv 0, iv 0, iv 0, iv 0, iv 0, .bool false] 109)
  have HG1 := Lib.hid (show w.heap.size < w1.heap.size from bkLt P1.out)
  clear B1 P1 P0 B0
  generalize w1.alloc (Obj.cells #[iv 0, iv 0, iv 0, iv 0, iv 0, iv 0, iv 0, iv 0, .bool false, iv 0, iv 0, iv 0, iv 0, iv 0, iv 0, iv 0, iv 0, .bool false, iv 0, iv 0, iv 0, iv 0, iv 0, iv 0, iv 0, iv 0, .bool false, iv 0, iv 0, iv 0, iv 0, iv 0, iv 0, iv 0, iv 0, .bool false] 109) = w2 at *
  go_upto_region 7 with (refine wpList_load_mid rfl 50 (.tmp 45) rfl (w.heap.size) 2 rfl p.ops.toList _ (ops_range PI.out) Try.underlying50 rfl (by simpa using RP.i50 p) ?_)
  go_loopw [47] (fun v wr => ∃ i : Nat, i ≤ 4 ∧ v = iv i ∧ Hid (wr.heap[w.heap.size]? = some (.cells p.cs 52 (0, 0))) ∧ Hid (wr.heap[w1.heap.size]? = some (.cells (fb_ (vcI p i) 36) 109 (0, 0))) ∧ Hid (Below w.heap.size w wr)) (fun v _ => 4 - (intOf v).toNat)
  case atStart => exact ⟨0, by omega, rfl, PI, VI, Lib.hid BI⟩
  case round =>
    clear PI VI BI
    obtain ⟨i, hi, rfl, PI, VI, BI⟩ := hrel
    have g0 : (0 : Int) ≤ (i : Int) := by omega
    by_cases hlt : i < 4
    · have h1 : (i : Int) < 4 := by omega
      have ix := IX.out i hlt
      go_upto_region 9 with (refine wpList_store_row rfl 49 (.tmp 14) (.tmp 50) rfl (wr.heap.size) (p.o i).cs rfl rfl 49 _ (heap_alloc_new wr _) (OP.i49 _) rfl (OP.one _) ?_)
      clear ix
      have KB := below_setRow ((Below.refl wr.heap.size wr).alloc (Nat.le_refl _) (Obj.cells #[iv 0, iv 0, iv 0, iv 0, iv 0, iv 0] 49)) (g := wr.heap.size) (Nat.le_refl _) (p.o i).cs
      have P2 := Lib.hid (bkBelow PI.out KB)
      have V2 := Lib.hid (bkBelow VI.out KB)
      have B2 := Lib.hid (bdT BI.out BI.out.size KB)
      have O2 := Lib.hid (setRow_heap _ _ _ (p.o i).cs _ _ (heap_alloc_new wr (Obj.cells #[iv 0, iv 0, iv 0, iv 0, iv 0, iv 0] 49)))
      clear KB PI VI BI
      generalize ((wr.alloc (Obj.cells #[iv 0, iv 0, iv 0, iv 0, iv 0, iv 0] 49)).setRow wr.heap.size (p.o i).cs) = w3 at *
      have TV := Lib.hid (there_voice V2.out hlt)
      go_upto_region 10 with (first
        | (refine wpList_load_row rfl 49 (.tmp 14) rfl (wr.heap.size) rfl 49 _ (0, 0) _ O2.out Try.underlying49 rfl (OP.i49 _) ?_)
        | (refine wpList_store_mid rfl 49 (.tmp 54) (.tmp 52) rfl (w1.heap.size) (i * 9) (p.o i).cs rfl rfl TV.out (OP.i49 _) (OP.one _) ?_; generalize hW : w3.setCells w1.heap.size (i * 9) (p.o i).cs.toList = w4 at *))
      have GR := Lib.hid (show w3.grownBy w4 (some w1.heap.size) from hW ▸ gr6 w3 _ (p.o i) (i * 9))
      have V4 := Lib.hid (show w4.heap[w1.heap.size]? = some (.cells (fb_ (vcI p (i + 1)) 36) 109 (0, 0)) from by rw [← init_step p i hlt, ← hW]; exact bk6 V2.out (p.o i) (i * 9))
      have P4 := Lib.hid (grBlk P2.out GR.out (fun h => by have := HG1.out; injection h; omega))
      have B4 := Lib.hid (B2.out.grown GR.out B2.out.size (fun k hk => by have := HG1.out; injection hk; omega))
      clear hW V2 P2 B2 O2 TV GR
      go_wp2
      go_roundw
      case rel => exact ⟨i + 1, by omega, by go_num, P4, V4, B4⟩
      case measure => simp [intOf]; omega
    · have h1 : decide ((i : Int) < 4) = false := decide_eq_false (by omega)
      obtain rfl : i = 4 := by omega
      have VZ := Lib.hid (show wr.heap[w1.heap.size]? = some (.cells (fb_ (vcF p ST.zero) 36) 109 (0, 0)) from by rw [← init_all]; exact VI.out)
      clear VI
      go_upto_region 11 with (fail)
      rename_i K2 hK2
      obtain ⟨m, rfl⟩ := Int.eq_ofNat_of_zero_le n0
      exact snd_p2 p HP.out fr ou on m (w.heap.size) (w1.heap.size) _ _ _ _ _ _ _ _ _ _ _ _ _ _ _ _ _ _ _ _ _ _ _ _ _ _ _ _ _ _ _ _ _ _ _ _ _ _ _ _ _ _ _ _ _ _ _ _ _ _ _ _ _ _ _ _ _ _ _ _ _ _ _ _ _ _ _ _ _ _ _ _ _ _ _ _ _ _ _ _ _ _ _ _ _ _ _ _ _ _ _ _ _ _ _ _ _ _ _ _ _ _ _ _ _ _ _ HAL.out (by omega) ⟨f0, f1⟩ ⟨o0, o1⟩ ⟨k0, k1⟩ w wr BI.out (Nat.le_refl _) HG1.out PI.out VZ.out K2 hK2
end Go.Proofs.Ytfodpoccjdaaaaa.CS

/- Four operators: the reference's Sound, walked. -/
import Derived.Test.YtfodpoccjdaaaaaReQ
import Derived.Deep.AppendLies
namespace Go.Proofs.Ytfodpoccjdaaaaa.CS
open Go.RowKit Go.Proofs.YtfodpoccjdaaaaaW.PrintLast Go.Proofs.Ytfodpoccjdaaaaa.TX Go.Proofs.Ytfodpoccjdaaaaa.PG
set_option linter.unusedVariables false
set_option linter.unusedSimpArgs false
theorem rw_succ (F : Nat → Int) (n : Nat) : rw_ F (n + 1) = rw_ F n ++ [iv (F n)] := by simp [rw_, List.range_succ]
set_option maxHeartbeats 16000000 in
set_option maxRecDepth 100000 in
theorem rsnd_bad (p : RP) (fr ou on : Int) (n : Int) (hv : vpB p = false) (w : World) : Calls Try.prog 42 #[.agg p.cs, iv fr, iv ou, iv on, iv n] w fun e w' => e = .returned (.tuple #[.slice none 0 0, iv 1]) ∧ Below w.heap.size w w' := by
  have B0 : Below w.heap.size w (w.alloc (Obj.cells p.cs 52)) := (Below.refl _ _).alloc (Nat.le_refl _) _
  have P0 := Lib.hid (heap_alloc_new w (Obj.cells p.cs 52))
  have VC := Lib.hid fun (W : World) => rvp_any p W
  rw [hv] at VC
  clear hv
  go_enter Try.func42, Try.ntmps42
  go_wp2_with (first
    | (refine wpList_load_row rfl 52 (.tmp 5) rfl (w.heap.size) rfl 52 _ (0, 0) _ P0.out Try.underlying52 rfl (RP.i52 p) ?_)
    | (go_at_call 45; (with_reducible refine (VC.out _).mono ?_); rintro e w1 ⟨rfl, hb1⟩; have P1 := Lib.hid (bkBelow P0.out hb1); have B1 := bdT B0 B0.size hb1; clear hb1))
  go_ret2
  exact ⟨rfl, B1⟩
set_option maxHeartbeats 16000000 in
set_option maxRecDepth 100000 in
theorem rsnd_r0 (p : RP) (fr ou on : Int) (n : Int) (hv : vpB p = true) (h0 : ¬ (0 ≤ n ∧ n ≤ 200000)) (w : World) : Calls Try.prog 42 #[.agg p.cs, iv fr, iv ou, iv on, iv n] w fun e w' => e = .returned (.tuple #[.slice none 0 0, iv 5]) ∧ Below w.heap.size w w' := by
  have B0 : Below w.heap.size w (w.alloc (Obj.cells p.cs 52)) := (Below.refl _ _).alloc (Nat.le_refl _) _
  have P0 := Lib.hid (heap_alloc_new w (Obj.cells p.cs 52))
  have VC := Lib.hid fun (W : World) => rvp_any p W
  rw [hv] at VC
  clear hv
  go_enter Try.func42, Try.ntmps42
  go_wp2_with (first
    | (refine wpList_load_row rfl 52 (.tmp 5) rfl (w.heap.size) rfl 52 _ (0, 0) _ P0.out Try.underlying52 rfl (RP.i52 p) ?_)
    | (go_at_call 45; (with_reducible refine (VC.out _).mono ?_); rintro e w1 ⟨rfl, hb1⟩; have P1 := Lib.hid (bkBelow P0.out hb1); have B1 := bdT B0 B0.size hb1; clear hb1)
    | (go_at_call 107; (with_reducible refine (crin_no n 0 200000 _ (by omega)).mono ?_); rintro e w9 ⟨rfl, rfl⟩))
  go_ret2
  exact ⟨rfl, B1⟩
set_option maxHeartbeats 16000000 in
set_option maxRecDepth 100000 in
theorem rsnd_r1 (p : RP) (fr ou on : Int) (n : Int) (hv : vpB p = true) (h0 : 0 ≤ n ∧ n ≤ 200000) (h1 : ¬ (0 ≤ fr ∧ fr ≤ 16777216)) (w : World) : Calls Try.prog 42 #[.agg p.cs, iv fr, iv ou, iv on, iv n] w fun e w' => e = .returned (.tuple #[.slice none 0 0, iv 5]) ∧ Below w.heap.size w w' := by
  have B0 : Below w.heap.size w (w.alloc (Obj.cells p.cs 52)) := (Below.refl _ _).alloc (Nat.le_refl _) _
  have P0 := Lib.hid (heap_alloc_new w (Obj.cells p.cs 52))
  have VC := Lib.hid fun (W : World) => rvp_any p W
  rw [hv] at VC
  clear hv
  go_enter Try.func42, Try.ntmps42
  go_wp2_with (first
    | (refine wpList_load_row rfl 52 (.tmp 5) rfl (w.heap.size) rfl 52 _ (0, 0) _ P0.out Try.underlying52 rfl (RP.i52 p) ?_)
    | (go_at_call 45; (with_reducible refine (VC.out _).mono ?_); rintro e w1 ⟨rfl, hb1⟩; have P1 := Lib.hid (bkBelow P0.out hb1); have B1 := bdT B0 B0.size hb1; clear hb1)
    | (go_at_call 107; (with_reducible refine (crin_yes n 0 200000 _ (by omega) (by omega)).mono ?_); rintro e w9 ⟨rfl, rfl⟩)
    | (go_at_call 107; (with_reducible refine (crin_no fr 0 16777216 _ (by omega)).mono ?_); rintro e w9 ⟨rfl, rfl⟩))
  go_ret2
  exact ⟨rfl, B1⟩
set_option maxHeartbeats 16000000 in
set_option maxRecDepth 100000 in
theorem rsnd_r2 (p : RP) (fr ou on : Int) (n : Int) (hv : vpB p = true) (h0 : 0 ≤ n ∧ n ≤ 200000) (h1 : 0 ≤ fr ∧ fr ≤ 16777216) (h2 : ¬ (1000 ≤ ou ∧ ou ≤ 96000)) (w : World) : Calls Try.prog 42 #[.agg p.cs, iv fr, iv ou, iv on, iv n] w fun e w' => e = .returned (.tuple #[.slice none 0 0, iv 5]) ∧ Below w.heap.size w w' := by
  have B0 : Below w.heap.size w (w.alloc (Obj.cells p.cs 52)) := (Below.refl _ _).alloc (Nat.le_refl _) _
  have P0 := Lib.hid (heap_alloc_new w (Obj.cells p.cs 52))
  have VC := Lib.hid fun (W : World) => rvp_any p W
  rw [hv] at VC
  clear hv
  go_enter Try.func42, Try.ntmps42
  go_wp2_with (first
    | (refine wpList_load_row rfl 52 (.tmp 5) rfl (w.heap.size) rfl 52 _ (0, 0) _ P0.out Try.underlying52 rfl (RP.i52 p) ?_)
    | (go_at_call 45; (with_reducible refine (VC.out _).mono ?_); rintro e w1 ⟨rfl, hb1⟩; have P1 := Lib.hid (bkBelow P0.out hb1); have B1 := bdT B0 B0.size hb1; clear hb1)
    | (go_at_call 107; (with_reducible refine (crin_yes n 0 200000 _ (by omega) (by omega)).mono ?_); rintro e w9 ⟨rfl, rfl⟩)
    | (go_at_call 107; (with_reducible refine (crin_yes fr 0 16777216 _ (by omega) (by omega)).mono ?_); rintro e w9 ⟨rfl, rfl⟩)
    | (go_at_call 107; (with_reducible refine (crin_no ou 1000 96000 _ (by omega)).mono ?_); rintro e w9 ⟨rfl, rfl⟩))
  go_ret2
  exact ⟨rfl, B1⟩
set_option maxHeartbeats 16000000 in
set_option maxRecDepth 100000 in
theorem rsnd_r3 (p : RP) (fr ou on : Int) (n : Int) (hv : vpB p = true) (h0 : 0 ≤ n ∧ n ≤ 200000) (h1 : 0 ≤ fr ∧ fr ≤ 16777216) (h2 : 1000 ≤ ou ∧ ou ≤ 96000) (h3 : ¬ (0 ≤ on ∧ on ≤ 200000)) (w : World) : Calls Try.prog 42 #[.agg p.cs, iv fr, iv ou, iv on, iv n] w fun e w' => e = .returned (.tuple #[.slice none 0 0, iv 5]) ∧ Below w.heap.size w w' := by
  have B0 : Below w.heap.size w (w.alloc (Obj.cells p.cs 52)) := (Below.refl _ _).alloc (Nat.le_refl _) _
  have P0 := Lib.hid (heap_alloc_new w (Obj.cells p.cs 52))
  have VC := Lib.hid fun (W : World) => rvp_any p W
  rw [hv] at VC
  clear hv
  go_enter Try.func42, Try.ntmps42
  go_wp2_with (first
    | (refine wpList_load_row rfl 52 (.tmp 5) rfl (w.heap.size) rfl 52 _ (0, 0) _ P0.out Try.underlying52 rfl (RP.i52 p) ?_)
    | (go_at_call 45; (with_reducible refine (VC.out _).mono ?_); rintro e w1 ⟨rfl, hb1⟩; have P1 := Lib.hid (bkBelow P0.out hb1); have B1 := bdT B0 B0.size hb1; clear hb1)
    | (go_at_call 107; (with_reducible refine (crin_yes n 0 200000 _ (by omega) (by omega)).mono ?_); rintro e w9 ⟨rfl, rfl⟩)
    | (go_at_call 107; (with_reducible refine (crin_yes fr 0 16777216 _ (by omega) (by omega)).mono ?_); rintro e w9 ⟨rfl, rfl⟩)
    | (go_at_call 107; (with_reducible refine (crin_yes ou 1000 96000 _ (by omega) (by omega)).mono ?_); rintro e w9 ⟨rfl, rfl⟩)
    | (go_at_call 107; (with_reducible refine (crin_no on 0 200000 _ (by omega)).mono ?_); rintro e w9 ⟨rfl, rfl⟩))
  go_ret2
  exact ⟨rfl, B1⟩
set_option maxHeartbeats 16000000 in
set_option maxRecDepth 100000 in
theorem rsnd_ok (p : RP) (fr ou on : Int) (n : Int) (hv : vpB p = true) (hq : ∀ i, 4 ≤ i → p.pt.o i = p.pt.o 3) (h0 : 0 ≤ n ∧ n ≤ 200000) (h1 : 0 ≤ fr ∧ fr ≤ 16777216) (h2 : 1000 ≤ ou ∧ ou ≤ 96000) (h3 : 0 ≤ on ∧ on ≤ 200000) (w : World) : Calls Try.prog 42 #[.agg p.cs, iv fr, iv ou, iv on, iv n] w fun e w' => ∃ A c b o, e = .returned (.tuple #[.slice A n.toNat c, iv 0]) ∧ DataAt w' A n.toNat b o (fun k => frameS p.pt (fr * 16384 / ou) on k) ∧ Below w.heap.size w w' := by
  have B0 : Below w.heap.size w (w.alloc (Obj.cells p.cs 52)) := (Below.refl _ _).alloc (Nat.le_refl _) _
  have P0 := Lib.hid (heap_alloc_new w (Obj.cells p.cs 52))
  have VC := Lib.hid fun (W : World) => rvp_any p W
  have hpo := (of_decide_eq_true (show decide p.Ok = true from hv))
  rw [hv] at VC
  have HP := Lib.hid hpo
  have HALL := Lib.hid (show ∀ i, (p.pt.o i).Ok from PT_all (p := p.pt) (fun i hi => hpo.at_ hi) hq)
  have hal := hpo.1
  obtain ⟨n0, n1⟩ := h0
  obtain ⟨f0, f1⟩ := h1
  obtain ⟨o0, o1⟩ := h2
  obtain ⟨k0, k1⟩ := h3
  obtain ⟨a, ha⟩ := Int.eq_ofNat_of_zero_le hal.1
  have ha8 : a < 8 := by omega
  have HA := Lib.hid (And.intro ha8 (And.intro (show p.pt.al = a by show p.al.toNat = a; omega) ha))
  obtain ⟨i0, hi_, hz0, hz1, hz2⟩ := info_parts TX.info3
  have NI := Lib.hid (And.intro hi_ (And.intro hz0 (And.intro hz1 hz2)))
  have hst0 : 0 ≤ fr * 16384 / ou := Int.ediv_nonneg (by omega) (by omega)
  have hst1 : fr * 16384 / ou ≤ 300000000 := by
    have : fr * 16384 / ou < 300000001 := Int.ediv_lt_of_lt_mul (by omega) (by omega)
    omega
  have HS := Lib.hid (And.intro hst0 hst1)
  obtain ⟨m, rfl⟩ := Int.eq_ofNat_of_zero_le n0
  clear hv hpo hq hal ha ha8 hi_ hz0 hz1 hz2
  go_enter Try.func42, Try.ntmps42
  go_upto_region 3 with (first
    | (refine wpList_load_row rfl 52 (.tmp 5) rfl (w.heap.size) rfl 52 _ (0, 0) _ P0.out Try.underlying52 rfl (RP.i52 p) ?_)
    | (go_at_call 45; (with_reducible refine (VC.out _).mono ?_); rintro e w1 ⟨rfl, hb1⟩; have P1 := Lib.hid (bkBelow P0.out hb1); have B1 := bdT B0 B0.size hb1; clear hb1))
  go_upto_region 6 with (first
    | (go_at_call 107; (with_reducible refine (crin_yes (m : Int) 0 200000 _ (by omega) (by omega)).mono ?_); rintro e w9 ⟨rfl, rfl⟩)
    | (go_at_call 107; (with_reducible refine (crin_yes fr 0 16777216 _ (by omega) (by omega)).mono ?_); rintro e w9 ⟨rfl, rfl⟩)
    | (go_at_call 107; (with_reducible refine (crin_yes ou 1000 96000 _ (by omega) (by omega)).mono ?_); rintro e w9 ⟨rfl, rfl⟩)
    | (go_at_call 107; (with_reducible refine (crin_yes on 0 200000 _ (by omega) (by omega)).mono ?_); rintro e w9 ⟨rfl, rfl⟩))
  generalize hst : fr * 16384 / ou = st at *
  have HST := Lib.hid hst
  clear hst
  clear f0 f1 o0 o1 VC
  go_upto_region 8 with (fail)
  have A5 := al5 w1 (Obj.cells #[iv 0, iv 0, iv 0, iv 0] 110) (Obj.cells #[iv 0, iv 0, iv 0, iv 0] 110) (Obj.cells #[iv 0, iv 0, iv 0, iv 0] 110) (Obj.cells #[iv 0, iv 0, iv 0, iv 0] 110) (Obj.cells #[.bool false, .bool false, .bool false, .bool false] 118)
  have P2 := Lib.hid (bkAlloc (bkAlloc (bkAlloc (bkAlloc (bkAlloc P1.out (Obj.cells #[iv 0, iv 0, iv 0, iv 0] 110)) (Obj.cells #[iv 0, iv 0, iv 0, iv 0] 110)) (Obj.cells #[iv 0, iv 0, iv 0, iv 0] 110)) (Obj.cells #[iv 0, iv 0, iv 0, iv 0] 110)) (Obj.cells #[.bool false, .bool false, .bool false, .bool false] 118))
  have B2 := Lib.hid (((((B1.alloc B1.size (Obj.cells #[iv 0, iv 0, iv 0, iv 0] 110)).alloc (by have := B1.size; simp; omega) (Obj.cells #[iv 0, iv 0, iv 0, iv 0] 110)).alloc (by have := B1.size; simp; omega) (Obj.cells #[iv 0, iv 0, iv 0, iv 0] 110)).alloc (by have := B1.size; simp; omega) (Obj.cells #[iv 0, iv 0, iv 0, iv 0] 110)).alloc (by have := B1.size; simp; omega) (Obj.cells #[.bool false, .bool false, .bool false, .bool false] 118))
  have HSZ := Lib.hid (show (((((w1.alloc (Obj.cells #[iv 0, iv 0, iv 0, iv 0] 110)).alloc (Obj.cells #[iv 0, iv 0, iv 0, iv 0] 110)).alloc (Obj.cells #[iv 0, iv 0, iv 0, iv 0] 110)).alloc (Obj.cells #[iv 0, iv 0, iv 0, iv 0] 110)).alloc (Obj.cells #[.bool false, .bool false, .bool false, .bool false] 118)).heap.size = w1.heap.size + 5 by simp)
  have HG := Lib.hid (show w.heap.size < w1.heap.size from bkLt P1.out)
  have H5 := Lib.hid A5
  clear A5 P1 B1 P0 B0
  generalize (((((w1.alloc (Obj.cells #[iv 0, iv 0, iv 0, iv 0] 110)).alloc (Obj.cells #[iv 0, iv 0, iv 0, iv 0] 110)).alloc (Obj.cells #[iv 0, iv 0, iv 0, iv 0] 110)).alloc (Obj.cells #[iv 0, iv 0, iv 0, iv 0] 110)).alloc (Obj.cells #[.bool false, .bool false, .bool false, .bool false] 118)) = w2 at *
  generalize hg : w1.heap.size = g at *
  clear hg
  go_upto_region 9 with (at_make; refine wpList_make_own _ rfl _ _ 29 rfl (g + 5) 3 i0 (.int .i64 0) 1 Try.underlying29 NI.out.1 NI.out.2.1 NI.out.2.2.1 .i64 .i64 _ m rfl rfl rfl (by rw [NI.out.2.2.2]; omega) (by unfold maxLen; omega) (by have := HSZ.out; omega) ?_; intro w3 hown hgrow; have HOW := Lib.hid hown; have HGR := Lib.hid hgrow; clear hown hgrow)
  have hD : w.heap.size < g ∧ g < g + 1 ∧ g + 1 < g + 1 + 1 ∧ g + 1 + 1 < g + 1 + 1 + 1 ∧ g + 1 + 1 + 1 < g + 1 + 1 + 1 + 1 ∧ g + 1 + 1 + 1 + 1 < w2.heap.size ∧ g + 1 + 1 + 1 + 1 + 1 = w2.heap.size := by have h1 := HG.out; have h2 := HSZ.out; omega
  have HD := Lib.hid hD
  have P3 := Lib.hid (grBlk P2.out HGR.out (by simp))
  have PH := Lib.hid (show w3.heap[g]? = some (.cells (fI ST.zero.ph) 110 (0, 0)) from grBlk H5.out.1 HGR.out (by simp))
  have LV := Lib.hid (show w3.heap[g + 1]? = some (.cells (fI ST.zero.l) 110 (0, 0)) from grBlk H5.out.2.1 HGR.out (by simp))
  have VL := Lib.hid (show w3.heap[g + 1 + 1]? = some (.cells (fI ST.zero.y) 110 (0, 0)) from grBlk H5.out.2.2.1 HGR.out (by simp))
  have BF := Lib.hid (show w3.heap[g + 1 + 1 + 1]? = some (.cells (fI ST.zero.y) 110 (0, 0)) from grBlk H5.out.2.2.2.1 HGR.out (by simp))
  have OV := Lib.hid (show w3.heap[g + 1 + 1 + 1 + 1]? = some (.cells (fB ST.zero.f) 118 (0, 0)) from grBlk H5.out.2.2.2.2 HGR.out (by simp))
  have B3 := Lib.hid (B2.out.grown HGR.out B2.out.size (by simp))
  clear hD HG HSZ H5 P2 B2 HGR
  generalize g + 1 + 1 + 1 + 1 = h4 at *
  generalize g + 1 + 1 + 1 = h3 at *
  generalize g + 1 + 1 = h2 at *
  generalize g + 1 = h1 at *
  have HOW2 := Lib.hid (ownLow HOW.out (Nat.zero_le _))
  clear HOW
  generalize w2.heap.size = gF at *
  have gm : (0 : Int) ≤ (m : Int) := by omega
  go_wp2
  go_loopw [18, 19] (fun sl v wr => ∃ (k : Nat) (BF : Nat → Int), k ≤ m ∧ v = iv k ∧ sl = .slice (some ⟨gF, 0, none⟩) k m ∧ Hid (BF 0 = (stS p.pt st on k).bf) ∧ Hid (wr.heap[w.heap.size]? = some (.cells p.cs 52 (0, 0))) ∧ Hid (wr.heap[g]? = some (.cells (fI (stS p.pt st on k).ph) 110 (0, 0))) ∧ Hid (wr.heap[h1]? = some (.cells (fI (stS p.pt st on k).l) 110 (0, 0))) ∧ Hid (wr.heap[h2]? = some (.cells (fI (stS p.pt st on k).y) 110 (0, 0))) ∧ Hid (wr.heap[h3]? = some (.cells (fI BF) 110 (0, 0))) ∧ Hid (wr.heap[h4]? = some (.cells (fB (stS p.pt st on k).f) 118 (0, 0))) ∧ Hid (wr.ownsRow 0 3 1 (.slice (some ⟨gF, 0, none⟩) k m) k (rw_ (frameS p.pt st on) k)) ∧ Hid (Below w.heap.size w wr)) (fun _ v _ => m - (intOf v).toNat)
  case atStart => exact ⟨0, ST.zero.y, by omega, rfl, rfl, Lib.hid rfl, P3, PH, LV, VL, BF, OV, HOW2, B3⟩
  case round =>
    clear P3 PH LV VL BF OV HOW2 B3
    obtain ⟨k, BF, hk, rfl, rfl, HB0, P3, PH, LV, VL, BK, OV, OW, B3⟩ := hrel
    have gk : (0 : Int) ≤ (k : Int) := by omega
    by_cases hlt : k < m
    · have h1_ : (k : Int) < (m : Int) := by omega
      have HSO := Lib.hid (stS_ok HALL.out st on k)
      have HKP := Lib.hid (fun (hc : decide ((k : Int) < on) = true) => stS_keep HALL.out st on k (by have := of_decide_eq_true hc; omega))
      have HSS := Lib.hid (show stS p.pt st on (k + 1) = stepS p.pt st (decide ((k : Int) < on)) (stS p.pt st on k) from rfl)
      have HFR := Lib.hid (show frameS p.pt st on k = smK (vals p.pt (stS p.pt st on k) 4) (outT p.pt.al) 4 from rfl)
      generalize stS p.pt st on k = s at *
      generalize hs' : stepS p.pt st (decide ((k : Int) < on)) s = s' at *
      have HS' := Lib.hid hs'
      clear hs'
      have HK := Lib.hid (And.intro hlt hk)
      go_upto_region 13 with (fail)
      go_wp2
      go_loopw [20, 21] (fun sm v wr => ∃ i : Nat, i ≤ 4 ∧ v = iv i ∧ sm = iv (smK (vals p.pt s 4) (outT a) i) ∧ Hid (wr.heap[w.heap.size]? = some (.cells p.cs 52 (0, 0))) ∧ Hid (wr.heap[g]? = some (.cells (fI (mixF s.ph s'.ph i)) 110 (0, 0))) ∧ Hid (wr.heap[h1]? = some (.cells (fI (mixF s.l s'.l i)) 110 (0, 0))) ∧ Hid (wr.heap[h2]? = some (.cells (fI (mixF s.y s'.y i)) 110 (0, 0))) ∧ Hid (wr.heap[h3]? = some (.cells (fI (mixF BF s.y i)) 110 (0, 0))) ∧ Hid (wr.heap[h4]? = some (.cells (fB (mixF s.f s'.f i)) 118 (0, 0))) ∧ Hid (wr.ownsRow 0 3 1 (.slice (some ⟨gF, 0, none⟩) k m) k (rw_ (frameS p.pt st on) k)) ∧ Hid (Below w.heap.size w wr)) (fun _ v _ => 4 - (intOf v).toNat)
      case atStart => exact ⟨0, by omega, rfl, rfl, P3, Lib.hid (by rw [mixF_zero]; exact PH.out), Lib.hid (by rw [mixF_zero]; exact LV.out), Lib.hid (by rw [mixF_zero]; exact VL.out), Lib.hid (by rw [mixF_zero]; exact BK.out), Lib.hid (by rw [mixF_zero]; exact OV.out), OW, B3⟩
      case round =>
        clear P3 PH LV VL BK OV OW B3
        obtain ⟨i, hi, rfl, rfl, P3, PH, LV, VL, BK, OV, OW, B3⟩ := hrel
        have gi : (0 : Int) ≤ (i : Int) := by omega
        by_cases hi4 : i < 4
        · have hi4_ : (i : Int) < 4 := by omega
          have HI4 := Lib.hid hi4
          obtain ⟨ma, hma, hmb0, hmb1⟩ : ∃ M0 : Int, (if i = 0 then (s.y 0 + s.bf) * p.fb / 16 else 0) = M0 ∧ -300 ≤ M0 ∧ M0 ≤ 300 := by
            refine ⟨_, rfl, ?_, ?_⟩
            all_goals
              have h1 := HSO.out.y0 0
              have h2 := HSO.out.b0
              have h3 := fbq_bd HP.out (show -510 ≤ s.y 0 + s.bf by omega) (show s.y 0 + s.bf ≤ 510 by omega)
              split <;> omega
          have HMA := Lib.hid hma
          have HMO := Lib.hid (show ma + smK (vals p.pt s i) (byT a i) i = modI p.pt s i (vals p.pt s i) from by
            rw [← hma]
            unfold modI
            by_cases h0 : i = 0
            · rw [if_pos h0, if_pos h0]
              subst h0
              exact Int.add_zero _
            · rw [if_neg h0, if_neg h0, show p.pt.al = a from HA.out.2.1, Int.zero_add])
          clear hma
          by_cases hz : i = 0
          · have e1 : ((i : Int) == 0) = true := by simp [hz]
            have e2 : (i == 0) = true := by simp [hz]
            have y0 := (bkCell VL.out 0).trans ((fI_get _ (by omega)).trans (congrArg (fun x => some (iv x)) (show mixF s.y s'.y i 0 = s.y 0 from if_neg (by omega))))
            have b0 := (bkCell BK.out 0).trans ((fI_get _ (by omega)).trans (congrArg (fun x => some (iv x)) ((show mixF BF s.y i 0 = BF 0 from if_neg (by omega)).trans HB0.out)))
            have z1 := (pt_head P3.out).2
            obtain ⟨u0_, u1_⟩ := HSO.out.y0 0
            obtain ⟨u2_, u3_⟩ := HSO.out.b0
            obtain ⟨u4_, u5_⟩ := fbq_bd HP.out (show -510 ≤ s.y 0 + s.bf by omega) (show s.y 0 + s.bf ≤ 510 by omega)
            have FC := Lib.hid fun (W : World) => rfloor_any ((s.y 0 + s.bf) * p.fb) 16 (by omega) (by omega) (by decide) (by decide) W
            have HZ := Lib.hid hz
            clear hz
            go_upto_region 19 with (go_at_call 108; (with_reducible refine (FC.out _).mono ?_); rintro e w4 ⟨rfl, rfl⟩)
            clear e1 e2 y0 b0 z1 u0_ u1_ u2_ u3_ u4_ u5_ FC
            have hz := HZ.out
            have P4 := P3
            have PH4 := PH
            have LV4 := LV
            have VL4 := VL
            have BK4 := BK
            have OV4 := OV
            have OW4 := OW
            have B4 := B3
            clear P3 PH LV VL BK OV OW B3
            go_wp2
            go_loopw [22, 23] (fun mm v wr => ∃ q : Nat, q ≤ i ∧ v = iv q ∧ mm = iv (ma + smK (vals p.pt s i) (byT a i) q) ∧ Hid (wr.heap[w.heap.size]? = some (.cells p.cs 52 (0, 0))) ∧ Hid (wr.heap[g]? = some (.cells (fI (mixF s.ph s'.ph i)) 110 (0, 0))) ∧ Hid (wr.heap[h1]? = some (.cells (fI (mixF s.l s'.l i)) 110 (0, 0))) ∧ Hid (wr.heap[h2]? = some (.cells (fI (mixF s.y s'.y i)) 110 (0, 0))) ∧ Hid (wr.heap[h3]? = some (.cells (fI (mixF BF s.y i)) 110 (0, 0))) ∧ Hid (wr.heap[h4]? = some (.cells (fB (mixF s.f s'.f i)) 118 (0, 0))) ∧ Hid (wr.ownsRow 0 3 1 (.slice (some ⟨gF, 0, none⟩) k m) k (rw_ (frameS p.pt st on) k)) ∧ Hid (Below w.heap.size w wr)) (fun _ v _ => i - (intOf v).toNat)
            case atStart => exact ⟨0, by omega, rfl, congrArg (fun x => Value.int .i64 x) (by rw [show smK (vals p.pt s i) (byT a i) 0 = 0 from rfl, Int.add_zero, ← HMA.out, if_pos hz]), P4, PH4, LV4, VL4, BK4, OV4, OW4, B4⟩
            case round =>
              clear hz P4 PH4 LV4 VL4 BK4 OV4 OW4 B4
              obtain ⟨q, hq, rfl, rfl, P5, PH5, LV5, VL5, BK5, OV5, OW5, B5⟩ := hrel
              have gq : (0 : Int) ≤ (q : Int) := by omega
              by_cases hqi : q < i
              · exact absurd hqi (by have := HZ.out; omega)
              · have hqi_ : decide ((q : Int) < (i : Int)) = false := decide_eq_false (by omega)
                obtain rfl : i = q := by omega
                go_upto_region 24 with (fail)
                rw [HMO.out]
                have y24 := (bkCell VL5.out i).trans ((fI_get _ hi4).trans (congrArg (fun x => some (iv x)) (mixF_at s.y s'.y i)))
                have c24 := (bkCell BK5.out i).trans (fI_get _ hi4)
                have z24 := bkFrozen BK5.out i
                go_upto_region 25 with (fail)
                clear y24 c24 z24
                have P6 := Lib.hid (bkFar P5.out (p := ⟨h3, i, none⟩) (by have := HD.out; show w.heap.size ≠ h3; omega) (iv (s.y i)))
                have PH6 := Lib.hid (bkFar PH5.out (p := ⟨h3, i, none⟩) (by have := HD.out; show g ≠ h3; omega) (iv (s.y i)))
                have LV6 := Lib.hid (bkFar LV5.out (p := ⟨h3, i, none⟩) (by have := HD.out; show h1 ≠ h3; omega) (iv (s.y i)))
                have VL6 := Lib.hid (bkFar VL5.out (p := ⟨h3, i, none⟩) (by have := HD.out; show h2 ≠ h3; omega) (iv (s.y i)))
                have BK6 := Lib.hid (bkPut BK5.out i (iv (s.y i)) (fI_set BF s.y i rfl))
                have OV6 := Lib.hid (bkFar OV5.out (p := ⟨h3, i, none⟩) (by have := HD.out; show h4 ≠ h3; omega) (iv (s.y i)))
                have OW6 := Lib.hid (ownFarC OW5.out ⟨h3, i, none⟩ (by have := HD.out; show h3 ≠ gF; omega) (iv (s.y i)))
                have B6 := Lib.hid (B5.out.setCell (p := ⟨h3, i, none⟩) (by have := HD.out; show w.heap.size ≤ h3; omega) (iv (s.y i)))
                clear P5 PH5 LV5 VL5 BK5 OV5 OW5 B5
                generalize wr.setCell ⟨h3, i, none⟩ (iv (s.y i)) = w6 at *
                rename_i K25 hK25
                refine r25 p m k i _ g h1 h2 h3 h4 gF _ _ _ _ _ _ _ hi4 (HP.out.at_ hi4) (by rw [mixF_at]; exact HSO.out.p0 i) (by rw [mixF_at]; exact HSO.out.l0 i) (modIq_bd HP.out HALL.out HSO.out i hi4) w w6 (by have := HD.out; omega) P6.out PH6.out LV6.out VL6.out BK6.out OV6.out OW6.out B6.out (by exact fun _ _ _ _ _ h => h) ?_
                clear P6 PH6 LV6 VL6 BK6 OV6 OW6 B6
                intro v95 v96 v97 v98 v99 v100 v101 v102 v103 v104 v105 v106 v107 v108 w7 k0 k1 k2 k3 k4 k5 k6 k7
                rw [y_step p s s' st _ i hi4 HS'.out] at k3
                have P7 := Lib.hid k0; have PH7 := Lib.hid k1; have LV7 := Lib.hid k2; have VL7 := Lib.hid k3; have BK7 := Lib.hid k4; have OV7 := Lib.hid k5; have OW7 := Lib.hid k6; have B7 := Lib.hid k7
                clear k0 k1 k2 k3 k4 k5 k6 k7
                refine hK25 _ _ ?_
                have z0 := (pt_head P7.out).1
                rw [HA.out.2.2] at z0
                have OC := Lib.hid fun (W : World) => out_any a HA.out.1 W
                have hbt : (bits BinOp.and IntKind.i64 (outT a / 2 ^ i) 1 == 1) = bitB (outT a) i := by rw [and1]; rfl
                have SE := Lib.hid (show smK (vals p.pt s 4) (outT a) (i + 1) = smK (vals p.pt s 4) (outT a) i + if bitB (outT a) i = true then vals p.pt s 4 i else 0 from rfl)
                have VQ := Lib.hid (show (fI (mixF s.y s'.y (i + 1)))[i]? = some (iv (vals p.pt s 4 i)) from (fI_get _ hi4).trans (congrArg (fun x => some (iv x)) ((mixF_lo _ _ (Nat.lt_succ_self i)).trans (by rw [← HS'.out]; rfl))))
                obtain ⟨o0_, o1_⟩ := outT_bd a HA.out.1
                obtain ⟨v0, v1⟩ := vals_bd (fun i _ => HALL.out i) HSO.out 4 (by omega) i
                obtain ⟨s0_, s1_⟩ := smK_bd (F := vals p.pt s 4) (outT a) (n := 4) (fun j _ => vals_bd (fun i _ => HALL.out i) HSO.out 4 (by omega) j) i (by omega)
                generalize smK (vals p.pt s 4) (outT a) i = D at *
                generalize vals p.pt s 4 i = vq at *
                cases hb : bitB (outT a) i
                all_goals
                  rw [hb] at hbt
                  rw [hb] at SE
                  clear hb
                  go_upto_region 28 with (go_at_call 111; (with_reducible refine (OC.out _).mono ?_); rintro e w8 ⟨rfl, hb8⟩; have P8 := Lib.hid (bkBelow P7.out hb8); have PH8 := Lib.hid (bkBelow PH7.out hb8); have LV8 := Lib.hid (bkBelow LV7.out hb8); have VL8 := Lib.hid (bkBelow VL7.out hb8); have BK8 := Lib.hid (bkBelow BK7.out hb8); have OV8 := Lib.hid (bkBelow OV7.out hb8); have OW8 := Lib.hid (ownLater OW7.out hb8); have B8 := Lib.hid (bdT B7.out B7.out.size hb8); have yc := (bkCell VL8.out i).trans VQ.out; clear hb8)
                  clear hbt z0 o0_ o1_ v0 v1 s0_ s1_ yc
                  rename_i K28 hK28
                  refine r28 p m k i _ g h1 h2 h3 h4 gF _ _ _ _ _ _ on hi4 (HP.out.at_ hi4) (by rw [mixF_at]; exact HSO.out.p0 i) (by rw [mixF_at]; exact HSO.out.l0 i) (by rw [mixF_at, mixF_at]; exact fun hc hf => HKP.out hc i hf) w _ (by have := HD.out; omega) P8.out PH8.out LV8.out VL8.out BK8.out OV8.out OW8.out B8.out (by exact fun _ _ _ _ _ h => h) ?_
                  clear P7 PH7 LV7 VL7 BK7 OV7 OW7 B7 P8 PH8 LV8 VL8 BK8 OV8 OW8 B8
                  intro v121 v122 v123 v124 v125 v126 v127 v128 v129 v130 v131 v132 v133 v134 v135 v136 v137 v138 v139 v140 v141 w9 k0 k1 k2 k3 k4 k5 k6 k7
                  rw [l_step p s s' st _ i HS'.out] at k2
                  rw [f_step p s s' st _ i HS'.out] at k5
                  have P9 := Lib.hid k0; have PH9 := Lib.hid k1; have LV9 := Lib.hid k2; have VL9 := Lib.hid k3; have BK9 := Lib.hid k4; have OV9 := Lib.hid k5; have OW9 := Lib.hid k6; have B9 := Lib.hid k7
                  clear k0 k1 k2 k3 k4 k5 k6 k7
                  refine hK28 _ _ ?_
                  have zm : w9.cell? ⟨w.heap.size, 2 + i * 6, none⟩ = some (iv (p.o i).mu) := op_range P9.out hi4 0 _ rfl
                  have y9 := (bkCell PH9.out i).trans ((fI_get _ hi4).trans (congrArg (fun x => some (iv x)) (mixF_at s.ph s'.ph i)))
                  have z9 := bkFrozen PH9.out i
                  obtain ⟨p0_, p1_⟩ := HSO.out.p0 i
                  obtain ⟨m0_, m1_⟩ := (HP.out.at_ hi4).1
                  have M0 := Int.mul_nonneg hst0 m0_
                  have M1 : st * (p.o i).mu ≤ 300000000 * 15 := Int.mul_le_mul hst1 m1_ m0_ (by decide)
                  by_cases hm : (p.o i).mu = 0
                  · have HY := Lib.hid (show byS (p.o i) st = st / 2 from if_pos hm)
                    have e1 : ((p.o i).mu == 0) = true := by simp [hm]
                    clear hm
                    go_wp2
                    have P10 := Lib.hid (bkFar P9.out (p := ⟨g, i, none⟩) (by have := HD.out; show w.heap.size ≠ g; omega) (iv ((s.ph i + (st / 2)) % 4194304)))
                    have PH10 := Lib.hid (bkPut PH9.out i (iv ((s.ph i + (st / 2)) % 4194304)) (ph_step p s s' st _ i HS'.out (st / 2) HY.out.symm))
                    have LV10 := Lib.hid (bkFar LV9.out (p := ⟨g, i, none⟩) (by have := HD.out; show h1 ≠ g; omega) (iv ((s.ph i + (st / 2)) % 4194304)))
                    have VL10 := Lib.hid (bkFar VL9.out (p := ⟨g, i, none⟩) (by have := HD.out; show h2 ≠ g; omega) (iv ((s.ph i + (st / 2)) % 4194304)))
                    have BK10 := Lib.hid (bkFar BK9.out (p := ⟨g, i, none⟩) (by have := HD.out; show h3 ≠ g; omega) (iv ((s.ph i + (st / 2)) % 4194304)))
                    have OV10 := Lib.hid (bkFar OV9.out (p := ⟨g, i, none⟩) (by have := HD.out; show h4 ≠ g; omega) (iv ((s.ph i + (st / 2)) % 4194304)))
                    have OW10 := Lib.hid (ownFarC OW9.out ⟨g, i, none⟩ (by have := HD.out; show g ≠ gF; omega) (iv ((s.ph i + (st / 2)) % 4194304)))
                    have B10 := Lib.hid (B9.out.setCell (p := ⟨g, i, none⟩) (by have := HD.out; show w.heap.size ≤ g; omega) (iv ((s.ph i + (st / 2)) % 4194304)))
                    clear P9 PH9 LV9 VL9 BK9 OV9 OW9 B9
                    go_roundw
                    case rel => exact ⟨i + 1, by omega, by go_num, by rw [SE.out]; simp, P10, PH10, LV10, VL10, BK10, OV10, OW10, B10⟩
                    case measure => simp [intOf]; omega
                  · have HY := Lib.hid (show byS (p.o i) st = st * (p.o i).mu from if_neg hm)
                    have e1 : ((p.o i).mu == 0) = false := by simp [hm]
                    clear hm
                    go_wp2
                    have P10 := Lib.hid (bkFar P9.out (p := ⟨g, i, none⟩) (by have := HD.out; show w.heap.size ≠ g; omega) (iv ((s.ph i + (st * (p.o i).mu)) % 4194304)))
                    have PH10 := Lib.hid (bkPut PH9.out i (iv ((s.ph i + (st * (p.o i).mu)) % 4194304)) (ph_step p s s' st _ i HS'.out (st * (p.o i).mu) HY.out.symm))
                    have LV10 := Lib.hid (bkFar LV9.out (p := ⟨g, i, none⟩) (by have := HD.out; show h1 ≠ g; omega) (iv ((s.ph i + (st * (p.o i).mu)) % 4194304)))
                    have VL10 := Lib.hid (bkFar VL9.out (p := ⟨g, i, none⟩) (by have := HD.out; show h2 ≠ g; omega) (iv ((s.ph i + (st * (p.o i).mu)) % 4194304)))
                    have BK10 := Lib.hid (bkFar BK9.out (p := ⟨g, i, none⟩) (by have := HD.out; show h3 ≠ g; omega) (iv ((s.ph i + (st * (p.o i).mu)) % 4194304)))
                    have OV10 := Lib.hid (bkFar OV9.out (p := ⟨g, i, none⟩) (by have := HD.out; show h4 ≠ g; omega) (iv ((s.ph i + (st * (p.o i).mu)) % 4194304)))
                    have OW10 := Lib.hid (ownFarC OW9.out ⟨g, i, none⟩ (by have := HD.out; show g ≠ gF; omega) (iv ((s.ph i + (st * (p.o i).mu)) % 4194304)))
                    have B10 := Lib.hid (B9.out.setCell (p := ⟨g, i, none⟩) (by have := HD.out; show w.heap.size ≤ g; omega) (iv ((s.ph i + (st * (p.o i).mu)) % 4194304)))
                    clear P9 PH9 LV9 VL9 BK9 OV9 OW9 B9
                    go_roundw
                    case rel => exact ⟨i + 1, by omega, by go_num, by rw [SE.out]; simp, P10, PH10, LV10, VL10, BK10, OV10, OW10, B10⟩
                    case measure => simp [intOf]; omega
          · have e1 : ((i : Int) == 0) = false := by simp; omega
            have e2 : (i == 0) = false := by simp [hz]
            go_upto_region 19 with (fail)
            clear e1 e2
            have P4 := P3
            have PH4 := PH
            have LV4 := LV
            have VL4 := VL
            have BK4 := BK
            have OV4 := OV
            have OW4 := OW
            have B4 := B3
            clear P3 PH LV VL BK OV OW B3
            go_wp2
            go_loopw [22, 23] (fun mm v wr => ∃ q : Nat, q ≤ i ∧ v = iv q ∧ mm = iv (ma + smK (vals p.pt s i) (byT a i) q) ∧ Hid (wr.heap[w.heap.size]? = some (.cells p.cs 52 (0, 0))) ∧ Hid (wr.heap[g]? = some (.cells (fI (mixF s.ph s'.ph i)) 110 (0, 0))) ∧ Hid (wr.heap[h1]? = some (.cells (fI (mixF s.l s'.l i)) 110 (0, 0))) ∧ Hid (wr.heap[h2]? = some (.cells (fI (mixF s.y s'.y i)) 110 (0, 0))) ∧ Hid (wr.heap[h3]? = some (.cells (fI (mixF BF s.y i)) 110 (0, 0))) ∧ Hid (wr.heap[h4]? = some (.cells (fB (mixF s.f s'.f i)) 118 (0, 0))) ∧ Hid (wr.ownsRow 0 3 1 (.slice (some ⟨gF, 0, none⟩) k m) k (rw_ (frameS p.pt st on) k)) ∧ Hid (Below w.heap.size w wr)) (fun _ v _ => i - (intOf v).toNat)
            case atStart => exact ⟨0, by omega, rfl, congrArg (fun x => Value.int .i64 x) (by rw [show smK (vals p.pt s i) (byT a i) 0 = 0 from rfl, Int.add_zero, ← HMA.out, if_neg hz]), P4, PH4, LV4, VL4, BK4, OV4, OW4, B4⟩
            case round =>
              clear P4 PH4 LV4 VL4 BK4 OV4 OW4 B4
              obtain ⟨q, hq, rfl, rfl, P5, PH5, LV5, VL5, BK5, OV5, OW5, B5⟩ := hrel
              have gq : (0 : Int) ≤ (q : Int) := by omega
              by_cases hqi : q < i
              · have hqi_ : (q : Int) < (i : Int) := by omega
                have z0 := (pt_head P5.out).1
                rw [HA.out.2.2] at z0
                have FRC := Lib.hid fun (W : World) => from_any a i HA.out.1 HI4.out W
                have yq : (fI (mixF s.y s'.y i))[q]? = some (iv (vals p.pt s i q)) := (fI_get _ (by omega)).trans (congrArg (fun x => some (iv x)) ((mixF_lo _ _ hqi).trans (by rw [← HS'.out, vals_at p.pt s hqi (by omega)]; rfl)))
                have YQ := Lib.hid yq
                have hbt : (bits BinOp.and IntKind.i64 (byT a i / 2 ^ q) 1 == 1) = bitB (byT a i) q := by rw [and1]; rfl
                have SE := Lib.hid (show smK (vals p.pt s i) (byT a i) (q + 1) = smK (vals p.pt s i) (byT a i) q + if bitB (byT a i) q = true then vals p.pt s i q else 0 from rfl)
                have hvb := vals_bd (fun i _ => HALL.out i) HSO.out i (by omega) q
                have hsb := smK_bd (F := vals p.pt s i) (byT a i) (n := 4) (fun j _ => vals_bd (fun i _ => HALL.out i) HSO.out i (by omega) j) q (by omega)
                obtain ⟨v0, v1⟩ := hvb
                obtain ⟨s0_, s1_⟩ := hsb
                clear yq
                generalize smK (vals p.pt s i) (byT a i) q = D at *
                generalize vals p.pt s i q = vq at *
                cases hb : bitB (byT a i) q
                all_goals
                  rw [hb] at hbt
                  rw [hb] at SE
                  clear hb
                  go_wp2_with (go_at_call 109; (with_reducible refine (FRC.out _).mono ?_); rintro e w6 ⟨rfl, hb6⟩; have P6 := Lib.hid (bkBelow P5.out hb6); have PH6 := Lib.hid (bkBelow PH5.out hb6); have LV6 := Lib.hid (bkBelow LV5.out hb6); have VL6 := Lib.hid (bkBelow VL5.out hb6); have BK6 := Lib.hid (bkBelow BK5.out hb6); have OV6 := Lib.hid (bkBelow OV5.out hb6); have OW6 := Lib.hid (ownLater OW5.out hb6); have B6 := Lib.hid (bdT B5.out B5.out.size hb6); have yc := (bkCell VL6.out q).trans YQ.out; clear hb6)
                  go_roundw
                  case rel => exact ⟨q + 1, by omega, by go_num, by rw [SE.out]; simp; try omega, P6, PH6, LV6, VL6, BK6, OV6, OW6, B6⟩
                  case measure => simp [intOf]; omega
              · have hqi_ : decide ((q : Int) < (i : Int)) = false := decide_eq_false (by omega)
                obtain rfl : i = q := by omega
                go_upto_region 24 with (fail)
                rw [HMO.out]
                have y24 := (bkCell VL5.out i).trans ((fI_get _ hi4).trans (congrArg (fun x => some (iv x)) (mixF_at s.y s'.y i)))
                have c24 := (bkCell BK5.out i).trans (fI_get _ hi4)
                have z24 := bkFrozen BK5.out i
                go_upto_region 25 with (fail)
                clear y24 c24 z24
                have P6 := Lib.hid (bkFar P5.out (p := ⟨h3, i, none⟩) (by have := HD.out; show w.heap.size ≠ h3; omega) (iv (s.y i)))
                have PH6 := Lib.hid (bkFar PH5.out (p := ⟨h3, i, none⟩) (by have := HD.out; show g ≠ h3; omega) (iv (s.y i)))
                have LV6 := Lib.hid (bkFar LV5.out (p := ⟨h3, i, none⟩) (by have := HD.out; show h1 ≠ h3; omega) (iv (s.y i)))
                have VL6 := Lib.hid (bkFar VL5.out (p := ⟨h3, i, none⟩) (by have := HD.out; show h2 ≠ h3; omega) (iv (s.y i)))
                have BK6 := Lib.hid (bkPut BK5.out i (iv (s.y i)) (fI_set BF s.y i rfl))
                have OV6 := Lib.hid (bkFar OV5.out (p := ⟨h3, i, none⟩) (by have := HD.out; show h4 ≠ h3; omega) (iv (s.y i)))
                have OW6 := Lib.hid (ownFarC OW5.out ⟨h3, i, none⟩ (by have := HD.out; show h3 ≠ gF; omega) (iv (s.y i)))
                have B6 := Lib.hid (B5.out.setCell (p := ⟨h3, i, none⟩) (by have := HD.out; show w.heap.size ≤ h3; omega) (iv (s.y i)))
                clear P5 PH5 LV5 VL5 BK5 OV5 OW5 B5
                generalize wr.setCell ⟨h3, i, none⟩ (iv (s.y i)) = w6 at *
                rename_i K25 hK25
                refine r25 p m k i _ g h1 h2 h3 h4 gF _ _ _ _ _ _ _ hi4 (HP.out.at_ hi4) (by rw [mixF_at]; exact HSO.out.p0 i) (by rw [mixF_at]; exact HSO.out.l0 i) (modIq_bd HP.out HALL.out HSO.out i hi4) w w6 (by have := HD.out; omega) P6.out PH6.out LV6.out VL6.out BK6.out OV6.out OW6.out B6.out (by exact fun _ _ _ _ _ h => h) ?_
                clear P6 PH6 LV6 VL6 BK6 OV6 OW6 B6
                intro v95 v96 v97 v98 v99 v100 v101 v102 v103 v104 v105 v106 v107 v108 w7 k0 k1 k2 k3 k4 k5 k6 k7
                rw [y_step p s s' st _ i hi4 HS'.out] at k3
                have P7 := Lib.hid k0; have PH7 := Lib.hid k1; have LV7 := Lib.hid k2; have VL7 := Lib.hid k3; have BK7 := Lib.hid k4; have OV7 := Lib.hid k5; have OW7 := Lib.hid k6; have B7 := Lib.hid k7
                clear k0 k1 k2 k3 k4 k5 k6 k7
                refine hK25 _ _ ?_
                have z0 := (pt_head P7.out).1
                rw [HA.out.2.2] at z0
                have OC := Lib.hid fun (W : World) => out_any a HA.out.1 W
                have hbt : (bits BinOp.and IntKind.i64 (outT a / 2 ^ i) 1 == 1) = bitB (outT a) i := by rw [and1]; rfl
                have SE := Lib.hid (show smK (vals p.pt s 4) (outT a) (i + 1) = smK (vals p.pt s 4) (outT a) i + if bitB (outT a) i = true then vals p.pt s 4 i else 0 from rfl)
                have VQ := Lib.hid (show (fI (mixF s.y s'.y (i + 1)))[i]? = some (iv (vals p.pt s 4 i)) from (fI_get _ hi4).trans (congrArg (fun x => some (iv x)) ((mixF_lo _ _ (Nat.lt_succ_self i)).trans (by rw [← HS'.out]; rfl))))
                obtain ⟨o0_, o1_⟩ := outT_bd a HA.out.1
                obtain ⟨v0, v1⟩ := vals_bd (fun i _ => HALL.out i) HSO.out 4 (by omega) i
                obtain ⟨s0_, s1_⟩ := smK_bd (F := vals p.pt s 4) (outT a) (n := 4) (fun j _ => vals_bd (fun i _ => HALL.out i) HSO.out 4 (by omega) j) i (by omega)
                generalize smK (vals p.pt s 4) (outT a) i = D at *
                generalize vals p.pt s 4 i = vq at *
                cases hb : bitB (outT a) i
                all_goals
                  rw [hb] at hbt
                  rw [hb] at SE
                  clear hb
                  go_upto_region 28 with (go_at_call 111; (with_reducible refine (OC.out _).mono ?_); rintro e w8 ⟨rfl, hb8⟩; have P8 := Lib.hid (bkBelow P7.out hb8); have PH8 := Lib.hid (bkBelow PH7.out hb8); have LV8 := Lib.hid (bkBelow LV7.out hb8); have VL8 := Lib.hid (bkBelow VL7.out hb8); have BK8 := Lib.hid (bkBelow BK7.out hb8); have OV8 := Lib.hid (bkBelow OV7.out hb8); have OW8 := Lib.hid (ownLater OW7.out hb8); have B8 := Lib.hid (bdT B7.out B7.out.size hb8); have yc := (bkCell VL8.out i).trans VQ.out; clear hb8)
                  clear hbt z0 o0_ o1_ v0 v1 s0_ s1_ yc
                  rename_i K28 hK28
                  refine r28 p m k i _ g h1 h2 h3 h4 gF _ _ _ _ _ _ on hi4 (HP.out.at_ hi4) (by rw [mixF_at]; exact HSO.out.p0 i) (by rw [mixF_at]; exact HSO.out.l0 i) (by rw [mixF_at, mixF_at]; exact fun hc hf => HKP.out hc i hf) w _ (by have := HD.out; omega) P8.out PH8.out LV8.out VL8.out BK8.out OV8.out OW8.out B8.out (by exact fun _ _ _ _ _ h => h) ?_
                  clear P7 PH7 LV7 VL7 BK7 OV7 OW7 B7 P8 PH8 LV8 VL8 BK8 OV8 OW8 B8
                  intro v121 v122 v123 v124 v125 v126 v127 v128 v129 v130 v131 v132 v133 v134 v135 v136 v137 v138 v139 v140 v141 w9 k0 k1 k2 k3 k4 k5 k6 k7
                  rw [l_step p s s' st _ i HS'.out] at k2
                  rw [f_step p s s' st _ i HS'.out] at k5
                  have P9 := Lib.hid k0; have PH9 := Lib.hid k1; have LV9 := Lib.hid k2; have VL9 := Lib.hid k3; have BK9 := Lib.hid k4; have OV9 := Lib.hid k5; have OW9 := Lib.hid k6; have B9 := Lib.hid k7
                  clear k0 k1 k2 k3 k4 k5 k6 k7
                  refine hK28 _ _ ?_
                  have zm : w9.cell? ⟨w.heap.size, 2 + i * 6, none⟩ = some (iv (p.o i).mu) := op_range P9.out hi4 0 _ rfl
                  have y9 := (bkCell PH9.out i).trans ((fI_get _ hi4).trans (congrArg (fun x => some (iv x)) (mixF_at s.ph s'.ph i)))
                  have z9 := bkFrozen PH9.out i
                  obtain ⟨p0_, p1_⟩ := HSO.out.p0 i
                  obtain ⟨m0_, m1_⟩ := (HP.out.at_ hi4).1
                  have M0 := Int.mul_nonneg hst0 m0_
                  have M1 : st * (p.o i).mu ≤ 300000000 * 15 := Int.mul_le_mul hst1 m1_ m0_ (by decide)
                  by_cases hm : (p.o i).mu = 0
                  · have HY := Lib.hid (show byS (p.o i) st = st / 2 from if_pos hm)
                    have e1 : ((p.o i).mu == 0) = true := by simp [hm]
                    clear hm
                    go_wp2
                    have P10 := Lib.hid (bkFar P9.out (p := ⟨g, i, none⟩) (by have := HD.out; show w.heap.size ≠ g; omega) (iv ((s.ph i + (st / 2)) % 4194304)))
                    have PH10 := Lib.hid (bkPut PH9.out i (iv ((s.ph i + (st / 2)) % 4194304)) (ph_step p s s' st _ i HS'.out (st / 2) HY.out.symm))
                    have LV10 := Lib.hid (bkFar LV9.out (p := ⟨g, i, none⟩) (by have := HD.out; show h1 ≠ g; omega) (iv ((s.ph i + (st / 2)) % 4194304)))
                    have VL10 := Lib.hid (bkFar VL9.out (p := ⟨g, i, none⟩) (by have := HD.out; show h2 ≠ g; omega) (iv ((s.ph i + (st / 2)) % 4194304)))
                    have BK10 := Lib.hid (bkFar BK9.out (p := ⟨g, i, none⟩) (by have := HD.out; show h3 ≠ g; omega) (iv ((s.ph i + (st / 2)) % 4194304)))
                    have OV10 := Lib.hid (bkFar OV9.out (p := ⟨g, i, none⟩) (by have := HD.out; show h4 ≠ g; omega) (iv ((s.ph i + (st / 2)) % 4194304)))
                    have OW10 := Lib.hid (ownFarC OW9.out ⟨g, i, none⟩ (by have := HD.out; show g ≠ gF; omega) (iv ((s.ph i + (st / 2)) % 4194304)))
                    have B10 := Lib.hid (B9.out.setCell (p := ⟨g, i, none⟩) (by have := HD.out; show w.heap.size ≤ g; omega) (iv ((s.ph i + (st / 2)) % 4194304)))
                    clear P9 PH9 LV9 VL9 BK9 OV9 OW9 B9
                    go_roundw
                    case rel => exact ⟨i + 1, by omega, by go_num, by rw [SE.out]; simp, P10, PH10, LV10, VL10, BK10, OV10, OW10, B10⟩
                    case measure => simp [intOf]; omega
                  · have HY := Lib.hid (show byS (p.o i) st = st * (p.o i).mu from if_neg hm)
                    have e1 : ((p.o i).mu == 0) = false := by simp [hm]
                    clear hm
                    go_wp2
                    have P10 := Lib.hid (bkFar P9.out (p := ⟨g, i, none⟩) (by have := HD.out; show w.heap.size ≠ g; omega) (iv ((s.ph i + (st * (p.o i).mu)) % 4194304)))
                    have PH10 := Lib.hid (bkPut PH9.out i (iv ((s.ph i + (st * (p.o i).mu)) % 4194304)) (ph_step p s s' st _ i HS'.out (st * (p.o i).mu) HY.out.symm))
                    have LV10 := Lib.hid (bkFar LV9.out (p := ⟨g, i, none⟩) (by have := HD.out; show h1 ≠ g; omega) (iv ((s.ph i + (st * (p.o i).mu)) % 4194304)))
                    have VL10 := Lib.hid (bkFar VL9.out (p := ⟨g, i, none⟩) (by have := HD.out; show h2 ≠ g; omega) (iv ((s.ph i + (st * (p.o i).mu)) % 4194304)))
                    have BK10 := Lib.hid (bkFar BK9.out (p := ⟨g, i, none⟩) (by have := HD.out; show h3 ≠ g; omega) (iv ((s.ph i + (st * (p.o i).mu)) % 4194304)))
                    have OV10 := Lib.hid (bkFar OV9.out (p := ⟨g, i, none⟩) (by have := HD.out; show h4 ≠ g; omega) (iv ((s.ph i + (st * (p.o i).mu)) % 4194304)))
                    have OW10 := Lib.hid (ownFarC OW9.out ⟨g, i, none⟩ (by have := HD.out; show g ≠ gF; omega) (iv ((s.ph i + (st * (p.o i).mu)) % 4194304)))
                    have B10 := Lib.hid (B9.out.setCell (p := ⟨g, i, none⟩) (by have := HD.out; show w.heap.size ≤ g; omega) (iv ((s.ph i + (st * (p.o i).mu)) % 4194304)))
                    clear P9 PH9 LV9 VL9 BK9 OV9 OW9 B9
                    go_roundw
                    case rel => exact ⟨i + 1, by omega, by go_num, by rw [SE.out]; simp, P10, PH10, LV10, VL10, BK10, OV10, OW10, B10⟩
                    case measure => simp [intOf]; omega
        · have hi4_ : decide ((i : Int) < 4) = false := decide_eq_false (by omega)
          obtain rfl : i = 4 := by omega
          go_upto_region 33 with (fail)
          have PHx := PH.out
          have LVx := LV.out
          have VLx := VL.out
          have BKx := BK.out
          have OVx := OV.out
          rw [fI_all] at PHx LVx VLx BKx
          rw [fB_all] at OVx
          have EF := Lib.hid (show smK (vals p.pt s 4) (outT a) 4 = frameS p.pt st on k by rw [HFR.out, show p.pt.al = a from HA.out.2.1])
          generalize smK (vals p.pt s 4) (outT a) 4 = SUM at *
          have PHy := Lib.hid PHx; have LVy := Lib.hid LVx; have VLy := Lib.hid VLx; have BKy := Lib.hid BKx; have OVy := Lib.hid OVx
          clear PHx LVx VLx BKx OVx PH LV VL BK OV
          go_wp2_with (at_builtin; refine wpList_append_fits _ rfl _ _ 29 rfl 0 3 i0 1 Try.underlying29 NI.out.1 NI.out.2.2.1 gF k m _ rfl (ownLater OW.out ((Below.refl _ _).alloc (Nat.le_refl _) _)) ⟨wr.heap.size, 0, none⟩ 1 1 [iv SUM] rfl rfl (World.news_of_block (cs := #[iv SUM]) (t := 3) (fr := (0, 0)) (heap_alloc_new wr _)) (by simp [Value.oneCell']) (by omega) ?_; intro w7 hown7 hgrow7; have P7 := Lib.hid (grBlk (bkAlloc P3.out _) hgrow7 (by have := HD.out; simp; omega)); have PH7 := Lib.hid (grBlk (bkAlloc PHy.out _) hgrow7 (by have := HD.out; simp; omega)); have LV7 := Lib.hid (grBlk (bkAlloc LVy.out _) hgrow7 (by have := HD.out; simp; omega)); have VL7 := Lib.hid (grBlk (bkAlloc VLy.out _) hgrow7 (by have := HD.out; simp; omega)); have BK7 := Lib.hid (grBlk (bkAlloc BKy.out _) hgrow7 (by have := HD.out; simp; omega)); have OV7 := Lib.hid (grBlk (bkAlloc OVy.out _) hgrow7 (by have := HD.out; simp; omega)); have B7 := Lib.hid ((B3.out.alloc B3.out.size _).grown hgrow7 (by have := B3.out.size; simp; omega) (by have := HD.out; simp; omega)); have OW7 := Lib.hid hown7; clear hown7 hgrow7)
          go_roundw
          case rel =>
            refine ⟨k + 1, s.y, hlt, by go_num, rfl, ?_⟩
            rw [HSS.out]
            exact ⟨Lib.hid (by rw [← HS'.out]; rfl), P7, PH7, LV7, VL7, BK7, OV7, Lib.hid (by rw [rw_succ, ← EF.out]; exact OW7.out), B7⟩
          case measure => simp [intOf]; omega
    · have h1_ : decide ((k : Int) < (m : Int)) = false := decide_eq_false (by omega)
      obtain rfl : m = k := by omega
      go_wp2
      go_ret2
      obtain ⟨A2, c2, g2, e2, hdat, _⟩ := ownDataV OW.out
      simp only [Value.slice.injEq, true_and] at e2
      obtain ⟨rfl, rfl⟩ := e2
      exact ⟨_, _, g2, 0, rfl, (by rw [HST.out]; exact hdat), B3.out⟩
end Go.Proofs.Ytfodpoccjdaaaaa.CS

/- Where sounds begin: package tune. -/
import Derived.Test.YtfodpoccjdaaaaaReD
import Derived.Deep.AppendLies
namespace Go.Proofs.Ytfodpoccjdaaaaa.SX
open Go.RowKit Go.Proofs.YtfodpoccjdaaaaaW.PrintLast Go.Proofs.Ytfodpoccjdaaaaa.TX
set_option linter.unusedVariables false
set_option linter.unusedSimpArgs false
theorem lst_hi {xs : Nat → Int} {n wi : Nat} (hx : FrB xs n) (hw : wi ≤ 256) : ∀ k, k * wi < n + wi → lst xs n wi k ≤ 8388608
  | 0, _ => by show (0 : Int) ≤ 8388608; omega
  | k + 1, h => by
    have h1 := msm_bd (F := win xs (k * wi)) (n := wl n wi k) (fun i hi => hx _ (by unfold wl at hi; omega)) _ (Nat.le_refl _)
    have h2 : wl n wi k ≤ 256 := by unfold wl; omega
    show msm _ _ ≤ _
    omega
theorem DataAt_win2 {w : World} {n b o : Nat} {xs : Nat → Int} (h : DataAt w (some ⟨b, o, none⟩) n b o xs) (a wi : Nat) (hi : a + wi ≤ n) : DataAt w (some ⟨b, o + a, none⟩) wi b (o + a) (win xs a) where
  top _ := rfl
  low hp := h.low (by omega)
  cell i hi' := by rw [Nat.add_assoc]; exact h.cell (a + i) (by omega)
def winN (n wi : Nat) : Nat := (n + wi - 1) / wi
theorem winN_eq {n wi k t : Nat} (hw : 1 ≤ wi) (ht : t = k * wi) (h1 : n ≤ t) (h2 : t ≤ n + wi - 1) : winN n wi = k := by
  subst ht
  refine Nat.div_eq_of_lt_le h2 ?_
  rw [Nat.succ_mul]
  omega
theorem winN_le (n wi : Nat) (hw : 1 ≤ wi) : n ≤ winN n wi * wi := by
  have h1 := Nat.div_add_mod (n + wi - 1) wi
  have h2 := Nat.mod_lt (n + wi - 1) (show 0 < wi by omega)
  unfold winN
  rw [Nat.mul_comm]
  omega
theorem dist0_any (a : Int) (ha : -32768 ≤ a ∧ a ≤ 32767) (w : World) : Calls Try.prog 99 #[iv a, iv 0] w fun e w' => e = .returned (iv (ab a)) ∧ w = w' := by
  have h := dist_any a 0 ha ⟨by omega, by omega⟩ w
  rwa [Int.sub_zero] at h
theorem hit_yes {xs : Nat → Int} {n wi k : Nat} {r S L : Int} (hS : ws xs n wi k = S) (hL : lst xs n wi k = L) (h1 : 0 < S) (h2 : r * L < S * 100) : hit xs n wi r k = true := decide_eq_true (by rw [hS, hL]; exact ⟨h1, h2⟩)
theorem hit_no {xs : Nat → Int} {n wi k : Nat} {r S L : Int} (hS : ws xs n wi k = S) (hL : lst xs n wi k = L) (h : ¬ (0 < S ∧ r * L < S * 100)) : hit xs n wi r k = false := decide_eq_false (by rw [hS, hL]; exact h)
set_option maxHeartbeats 16000000 in
set_option maxRecDepth 100000 in
theorem slices_any (s : S) (A : Option Addr) (n c b o : Nat) (xs : Nat → Int) (wi : Nat) (rt : Int) (hv : vS s n xs = true) (hw1 : 1 ≤ wi) (hw2 : wi ≤ 256) (hr1 : 0 ≤ rt) (hr2 : rt ≤ 10000) (hn : n ≤ 4096) (hc : n ≤ c) (hx : FrB xs n) (w : World) (hA : DataAt w A n b o xs) :
    Calls Try.prog 37 #[.agg (s.cs A n c), iv wi, iv rt] w fun e w' => ∃ A' c' b' o', e = .returned (.tuple #[.slice A' (outs xs n wi rt (winN n wi)).length c', iv 0]) ∧ DataAt w' A' (outs xs n wi rt (winN n wi)).length b' o' (fun i => (outs xs n wi rt (winN n wi)).getD i 0) ∧ Below w.heap.size w w' := by
  obtain ⟨i0, hi, hz0, hz1, hz2⟩ := info_parts info3
  have B0 : Below w.heap.size w (w.alloc (Obj.cells (s.cs A n c) 31)) := (Below.refl _ _).alloc (Nat.le_refl _) _
  have P0 := Lib.hid (heap_alloc_new w (Obj.cells (s.cs A n c) 31))
  have D0 := Lib.hid (hA.later B0)
  have VC := Lib.hid fun (W : World) (h : DataAt W A n b o xs) => (show Calls Try.prog 95 #[.agg (s.cs A n c)] W fun e w' => e = .returned (.bool true) ∧ Below W.heap.size W w' from hv ▸ valid_any s A n c b o xs (by omega) hc W h)
  have HX := Lib.hid hx
  have TA := Lib.hid hA.top
  have HA0 := Lib.hid hA
  have y1 : (s.cs A n c)[1]? = some (Value.slice A n c) := rfl
  have Y1 := Lib.hid y1
  have NI := Lib.hid (And.intro hi (And.intro hz0 (And.intro hz1 hz2)))
  clear hv hA hx y1 hi hz0 hz1 hz2
  go_enter Try.func37, Try.ntmps37
  go_upto_region 3 with (first
    | (refine wpList_load_row rfl 31 (.tmp 3) rfl (w.heap.size) rfl 31 _ (0, 0) _ P0.out Try.underlying31 rfl (S.i24 _ _ _ _) ?_)
    | (go_at_call 95; (with_reducible refine (VC.out _ D0.out).mono ?_); rintro e w1 ⟨rfl, hb1⟩; have P1 := Lib.hid (bkBelow P0.out hb1); have D1 := Lib.hid (D0.out.later hb1); have B1 := bdT B0 B0.size hb1; clear hb1))
  go_upto_region 8 with (first
    | (go_at_call 96; (with_reducible refine (in_yes (wi : Int) 1 256 _ (by omega) (by omega)).mono ?_); rintro e w9 ⟨rfl, rfl⟩)
    | (go_at_call 96; (with_reducible refine (in_yes rt 0 10000 _ (by omega) (by omega)).mono ?_); rintro e w9 ⟨rfl, rfl⟩))
  have S1 := Lib.hid (show w.heap.size + 1 ≤ w1.heap.size from bkLt P1.out)
  go_loopw [8, 9, 10] (fun v la at_ wr => ∃ (k t : Nat), at_ = iv t ∧ Hid (t = k * wi) ∧ t ≤ n + wi - 1 ∧ la = iv (lst xs n wi k) ∧ Hid (wr.ownsRow (w.heap.size + 1) 3 1 v (outs xs n wi rt k).length ((outs xs n wi rt k).map iv)) ∧ Hid (wr.heap[w.heap.size]? = some (.cells (s.cs A n c) 31 (0, 0))) ∧ w1.heap.size ≤ wr.heap.size ∧ Below w.heap.size w wr ∧ Hid (DataAt wr A n b o xs)) (fun _ _ v _ => n + 300 - (intOf v).toNat)
  case atStart => exact ⟨0, 0, rfl, Lib.hid (by simp), by omega, rfl, Lib.hid (World.ownsRow_nil _ _ _ _), P1, Nat.le_refl _, B1, D1⟩
  case round =>
    clear P1 D1 B1
    obtain ⟨k, t, rfl, HT, htn, rfl, HO, P1, hsz, B1, D1⟩ := hrel
    have z1 := (bkCell P1.out 1).trans Y1.out
    have g0 : (0 : Int) ≤ (t : Int) := by omega
    by_cases hlt : t < n
    · have d1 : decide ((t : Int) < (n : Int)) = true := decide_eq_true (by omega)
      have d1n : decide (t < n) = true := decide_eq_true (by omega)
      have tA := TA.out (by omega)
      subst tA
      have hF : FrB (win xs t) (wl n wi k) := fun i hi => HX.out _ (by unfold wl at hi; rw [← HT.out] at hi; omega)
      have HF := Lib.hid hF
      have BB := Lib.hid (msm_bd hF)
      have HL := Lib.hid (show wl n wi k = min wi (n - t) from by unfold wl; rw [← HT.out])
      have HWS := Lib.hid (show ws xs n wi k = msm (win xs t) (wl n wi k) from by unfold ws; rw [← HT.out])
      have hL0 := lst_nn xs n wi k
      have hL1 : lst xs n wi k ≤ 8388608 := lst_hi HX.out hw2 k (by have := HT.out; omega)
      clear hF
      rcases Nat.lt_or_ge n (t + wi) with hc1 | hc1
      · have m1 : ((n : Int) < (t : Int) + wi) = True := eq_true (by omega)
        have m2 : (n < t + wi) = True := eq_true (by omega)
        have hm : wl n wi k = n - t := by have := HL.out; omega
        have HW := Lib.hid (DataAt_win2 D1.out t (n - t) (by omega))
        rw [hm] at HF BB HWS
        clear HL hm
        generalize hLA : lst xs n wi k = LA at *
        have HLA := Lib.hid hLA
        clear hLA
        go_wp2
        clear m1 m2
        go_loop [11, 45] (fun d v => ∃ j : Nat, j ≤ (n - t) ∧ v = iv j ∧ d = iv (msm (win xs t) j)) (fun _ v => (n - t) - (intOf v).toNat)
        case atStart => exact ⟨0, by omega, rfl, rfl⟩
        case round =>
          obtain ⟨j, hj, rfl, rfl⟩ := hrel
          by_cases hlt : j < (n - t)
          · have ha := HW.out.cell j (by omega)
            obtain ⟨f0, f1⟩ := HF.out j (by omega)
            obtain ⟨d0, d1⟩ := BB.out j (by omega)
            have a0 := ab_nn (win xs t j)
            have a1 : ab (win xs t j) ≤ 32768 := by unfold ab; split <;> omega
            have SE := Lib.hid (show msm (win xs t) (j + 1) = msm (win xs t) j + ab (win xs t j) from rfl)
            have DC := Lib.hid fun (W : World) => dist0_any (win xs t j) ⟨f0, f1⟩ W
            generalize ab (win xs t j) = z at *
            generalize msm (win xs t) j = D at *
            generalize win xs t j = x at *
            have h0 : (0 : Int) ≤ (j : Int) := by omega
            have h1 : (j : Int) < ((n - t : Nat) : Int) := by omega
            have h1n : j < (n - t) := hlt
            go_wp2_with (go_at_call 99; (with_reducible refine (DC.out _).mono ?_); rintro e w9 ⟨rfl, rfl⟩)
            go_round
            case rel => exact ⟨j + 1, by omega, by go_num, by rw [SE.out]⟩
            case measure => simp [intOf]; omega
          · obtain rfl : (n - t) = j := by omega
            obtain ⟨s0, s1⟩ := BB.out (n - t) (Nat.le_refl _)
            generalize msm (win xs t) (n - t) = S at *
            have p0 : 0 ≤ rt * LA := Int.mul_nonneg hr1 hL0
            have p1 : rt * LA ≤ 10000 * 8388608 := Int.mul_le_mul hr2 hL1 hL0 (by omega)
            have HT2 := Lib.hid (show t + wi = (k + 1) * wi from by rw [HT.out, Nat.succ_mul])
            have HLS := Lib.hid (show lst xs n wi (k + 1) = S from HWS.out)
            have e0 : decide (((n - t : Nat) : Int) < ((n - t : Nat) : Int)) = false := decide_eq_false (by omega)
            by_cases c2 : 0 < S ∧ rt * LA < S * 100
            · have HO2 := Lib.hid (outs_yes (r := rt) (hit_yes HWS.out HLA.out c2.1 c2.2))
              have c4 := c2.1
              have c5 := c2.2
              have d2 : decide (0 < S) = true := decide_eq_true c4
              have d3 : decide (rt * LA < S * 100) = true := decide_eq_true c5
              have HM := Lib.hid (show (outs xs n wi rt k).length ≤ 5000 from by
                have h1 := outK_len xs n wi rt k
                rw [← outs_len] at h1
                have h2 := HT.out
                have h3 : k ≤ k * wi := Nat.le_mul_of_pos_right _ (by omega)
                omega)
              clear c2
              have HB := Lib.hid (bkLt P1.out)
              have HM2 := HM.out
              go_wp2_with (at_builtin; refine wpList_append_own _ rfl _ _ 29 rfl (w.heap.size + 1) 3 i0 (.int .i64 0) 1 8 Try.underlying29 NI.out.1 NI.out.2.1 NI.out.2.2.1 NI.out.2.2.2 rfl (by decide) _ _ _ rfl (HO.out.alloc _) ⟨wr.heap.size, 0, none⟩ 1 1 [iv t] rfl rfl (World.news_of_block (cs := #[iv t]) (t := 3) (fr := (0, 0)) (heap_alloc_new wr _)) (by simp [Value.oneCell']) (by unfold maxLen; omega) (by omega) (by have := HB.out; simp; omega) ?_; intro v' w3 hown hgrow _; have HG := Lib.hid hgrow; have HOW := Lib.hid hown; clear hgrow hown)
              have hne : some w.heap.size ≠ u8.ownBlock := fun h => by have := ownRowB HO.out _ h.symm; omega
              have B3 : Below w.heap.size w w3 := (B1.alloc B1.size _).grown HG.out (by have := B1.size; simp; omega) (fun k hk => by have := ownRowB HO.out k hk; omega)
              have HP3 := Lib.hid (grBlk (bkAlloc P1.out _) HG.out hne)
              have hs3 : w1.heap.size ≤ w3.heap.size := Nat.le_trans hsz (Nat.le_trans (by simp) HG.out.size)
              clear hne
              go_wp2
              go_roundw
              case rel => exact ⟨k + 1, t + wi, by go_num, HT2, by omega, by rw [HLS.out], Lib.hid (by rw [HO2.out, ← HT.out, List.length_append, List.map_append]; exact HOW.out), HP3, hs3, B3, Lib.hid (HA0.out.later B3)⟩
              case measure => simp [intOf]; omega
            · have HO2 := Lib.hid (outs_no (r := rt) (hit_no HWS.out HLA.out c2))
              by_cases c4 : 0 < S
              · have d2 : decide (0 < S) = true := decide_eq_true c4
                have d3 : decide (rt * LA < S * 100) = false := decide_eq_false (fun h => c2 ⟨c4, h⟩)
                clear c2
                go_wp2
                go_roundw
                case rel => exact ⟨k + 1, t + wi, by go_num, HT2, by omega, by rw [HLS.out], by rw [HO2.out]; exact HO, P1, hsz, B1, D1⟩
                case measure => simp [intOf]; omega
              · have d2 : decide (0 < S) = false := decide_eq_false c4
                clear c2
                go_wp2
                go_roundw
                case rel => exact ⟨k + 1, t + wi, by go_num, HT2, by omega, by rw [HLS.out], by rw [HO2.out]; exact HO, P1, hsz, B1, D1⟩
                case measure => simp [intOf]; omega
      · have m1 : ((n : Int) < (t : Int) + wi) = False := eq_false (by omega)
        have m2 : (n < t + wi) = False := eq_false (by omega)
        have hm : wl n wi k = wi := by have := HL.out; omega
        have HW := Lib.hid (DataAt_win2 D1.out t wi (by omega))
        rw [hm] at HF BB HWS
        clear HL hm
        generalize hLA : lst xs n wi k = LA at *
        have HLA := Lib.hid hLA
        clear hLA
        go_wp2
        clear m1 m2
        go_loop [11, 45] (fun d v => ∃ j : Nat, j ≤ wi ∧ v = iv j ∧ d = iv (msm (win xs t) j)) (fun _ v => wi - (intOf v).toNat)
        case atStart => exact ⟨0, by omega, rfl, rfl⟩
        case round =>
          obtain ⟨j, hj, rfl, rfl⟩ := hrel
          by_cases hlt : j < wi
          · have ha := HW.out.cell j (by omega)
            obtain ⟨f0, f1⟩ := HF.out j (by omega)
            obtain ⟨d0, d1⟩ := BB.out j (by omega)
            have a0 := ab_nn (win xs t j)
            have a1 : ab (win xs t j) ≤ 32768 := by unfold ab; split <;> omega
            have SE := Lib.hid (show msm (win xs t) (j + 1) = msm (win xs t) j + ab (win xs t j) from rfl)
            have DC := Lib.hid fun (W : World) => dist0_any (win xs t j) ⟨f0, f1⟩ W
            generalize ab (win xs t j) = z at *
            generalize msm (win xs t) j = D at *
            generalize win xs t j = x at *
            have h0 : (0 : Int) ≤ (j : Int) := by omega
            have h1 : (j : Int) < (wi : Int) := by omega
            have h1n : j < wi := hlt
            go_wp2_with (go_at_call 99; (with_reducible refine (DC.out _).mono ?_); rintro e w9 ⟨rfl, rfl⟩)
            go_round
            case rel => exact ⟨j + 1, by omega, by go_num, by rw [SE.out]⟩
            case measure => simp [intOf]; omega
          · obtain rfl : wi = j := by omega
            obtain ⟨s0, s1⟩ := BB.out wi (Nat.le_refl _)
            generalize msm (win xs t) wi = S at *
            have p0 : 0 ≤ rt * LA := Int.mul_nonneg hr1 hL0
            have p1 : rt * LA ≤ 10000 * 8388608 := Int.mul_le_mul hr2 hL1 hL0 (by omega)
            have HT2 := Lib.hid (show t + wi = (k + 1) * wi from by rw [HT.out, Nat.succ_mul])
            have HLS := Lib.hid (show lst xs n wi (k + 1) = S from HWS.out)
            have e0 : decide ((wi : Int) < (wi : Int)) = false := decide_eq_false (by omega)
            by_cases c2 : 0 < S ∧ rt * LA < S * 100
            · have HO2 := Lib.hid (outs_yes (r := rt) (hit_yes HWS.out HLA.out c2.1 c2.2))
              have c4 := c2.1
              have c5 := c2.2
              have d2 : decide (0 < S) = true := decide_eq_true c4
              have d3 : decide (rt * LA < S * 100) = true := decide_eq_true c5
              have HM := Lib.hid (show (outs xs n wi rt k).length ≤ 5000 from by
                have h1 := outK_len xs n wi rt k
                rw [← outs_len] at h1
                have h2 := HT.out
                have h3 : k ≤ k * wi := Nat.le_mul_of_pos_right _ (by omega)
                omega)
              clear c2
              have HB := Lib.hid (bkLt P1.out)
              have HM2 := HM.out
              go_wp2_with (at_builtin; refine wpList_append_own _ rfl _ _ 29 rfl (w.heap.size + 1) 3 i0 (.int .i64 0) 1 8 Try.underlying29 NI.out.1 NI.out.2.1 NI.out.2.2.1 NI.out.2.2.2 rfl (by decide) _ _ _ rfl (HO.out.alloc _) ⟨wr.heap.size, 0, none⟩ 1 1 [iv t] rfl rfl (World.news_of_block (cs := #[iv t]) (t := 3) (fr := (0, 0)) (heap_alloc_new wr _)) (by simp [Value.oneCell']) (by unfold maxLen; omega) (by omega) (by have := HB.out; simp; omega) ?_; intro v' w3 hown hgrow _; have HG := Lib.hid hgrow; have HOW := Lib.hid hown; clear hgrow hown)
              have hne : some w.heap.size ≠ u8.ownBlock := fun h => by have := ownRowB HO.out _ h.symm; omega
              have B3 : Below w.heap.size w w3 := (B1.alloc B1.size _).grown HG.out (by have := B1.size; simp; omega) (fun k hk => by have := ownRowB HO.out k hk; omega)
              have HP3 := Lib.hid (grBlk (bkAlloc P1.out _) HG.out hne)
              have hs3 : w1.heap.size ≤ w3.heap.size := Nat.le_trans hsz (Nat.le_trans (by simp) HG.out.size)
              clear hne
              go_wp2
              go_roundw
              case rel => exact ⟨k + 1, t + wi, by go_num, HT2, by omega, by rw [HLS.out], Lib.hid (by rw [HO2.out, ← HT.out, List.length_append, List.map_append]; exact HOW.out), HP3, hs3, B3, Lib.hid (HA0.out.later B3)⟩
              case measure => simp [intOf]; omega
            · have HO2 := Lib.hid (outs_no (r := rt) (hit_no HWS.out HLA.out c2))
              by_cases c4 : 0 < S
              · have d2 : decide (0 < S) = true := decide_eq_true c4
                have d3 : decide (rt * LA < S * 100) = false := decide_eq_false (fun h => c2 ⟨c4, h⟩)
                clear c2
                go_wp2
                go_roundw
                case rel => exact ⟨k + 1, t + wi, by go_num, HT2, by omega, by rw [HLS.out], by rw [HO2.out]; exact HO, P1, hsz, B1, D1⟩
                case measure => simp [intOf]; omega
              · have d2 : decide (0 < S) = false := decide_eq_false c4
                clear c2
                go_wp2
                go_roundw
                case rel => exact ⟨k + 1, t + wi, by go_num, HT2, by omega, by rw [HLS.out], by rw [HO2.out]; exact HO, P1, hsz, B1, D1⟩
                case measure => simp [intOf]; omega
    · have d1 : decide ((t : Int) < (n : Int)) = false := decide_eq_false (by omega)
      have d1n : decide (t < n) = false := decide_eq_false (by omega)
      have HK := Lib.hid (winN_eq hw1 HT.out (by omega) htn)
      go_wp2
      go_ret2
      obtain ⟨A', c', rfl, hform⟩ := ownForm HO.out
      rw [HK.out]
      rcases hform with h0 | ⟨g, rfl, hcell⟩
      · exact ⟨A', c', 0, 0, rfl, ⟨fun h => absurd h (by omega), fun h => absurd h (by omega), fun i hi => absurd hi (by omega)⟩, B1⟩
      · exact ⟨_, c', g, 0, rfl, ⟨fun _ => rfl, fun h => World.block_lt_of_cell? _ _ (hcell 0 h), fun i hi => by rw [Nat.zero_add]; exact hcell i hi⟩, B1⟩
end Go.Proofs.Ytfodpoccjdaaaaa.SX

/- A good log, played: what each row leaves and puts out. -/
import Derived.Test.YtfpgidflaaefeaaChV
import Derived.Test.YtfpgidflaaefeaaChO
namespace Go.Proofs.Ytfpgidflaaefeaa.CH
open Go.RowKit Go.Proofs.YtfpgidflaaefeaaW.PrintLast
set_option linter.unusedVariables false
set_option linter.unusedSimpArgs false
/-- the first c puts of row r -/
def puts (z : Nat → Nat → Int) (r : Nat) (t : T) : Nat → T
  | 0 => t
  | c + 1 => if r = 0 ∨ z r c ≠ z (r - 1) c then (puts z r t c).put c (z r c) else puts z r t c
/-- the chip ahead of row r -/
def chips (z : Nat → Nat → Int) (n : Nat) : Nat → T
  | 0 => T.new
  | r + 1 => (puts z r (chips z n r) 14).run n
/-- what the first r rows put out -/
def song (z : Nat → Nat → Int) (n : Nat) : Nat → List Int
  | 0 => []
  | r + 1 => song z n r ++ (puts z r (chips z n r) 14).vals n
theorem song_len (z : Nat → Nat → Int) (n : Nat) : ∀ r, (song z n r).length = n * r
  | 0 => rfl
  | r + 1 => by
    show (song z n r ++ _).length = _
    rw [List.length_append, song_len z n r, vals_len, Nat.mul_succ]
theorem puts_put {z : Nat → Nat → Int} {r c : Nat} {t : T} (h : r = 0 ∨ z r c ≠ z (r - 1) c) : puts z r t (c + 1) = (puts z r t c).put c (z r c) := if_pos h
theorem puts_skip {z : Nat → Nat → Int} {r c : Nat} {t : T} (h : ¬ (r = 0 ∨ z r c ≠ z (r - 1) c)) : puts z r t (c + 1) = puts z r t c := if_neg h
theorem puts_ok {z : Nat → Nat → Int} {r : Nat} {t : T} (ht : t.Ok) (hz : ∀ c, c < 14 → 0 ≤ z r c ∧ z r c ≤ 255) : ∀ c, c ≤ 14 → (puts z r t c).Ok
  | 0, _ => ht
  | c + 1, h => by
    have ih := puts_ok ht hz c (by omega)
    unfold puts
    split
    · exact put_ok ih (hz c (by omega)).1 (hz c (by omega)).2
    · exact ih
theorem chips_ok {L : Nat → Nat} {z : Nat → Nat → Int} {len : Nat} (n : Nat) (hG : Good L z len) : ∀ r, r ≤ len → (chips z n r).Ok
  | 0, _ => new_ok
  | r + 1, h => run_ok (puts_ok (chips_ok n hG r (by omega)) (hG r (by omega)).2 14 (Nat.le_refl _)) n
theorem ownBase2 {w : World} {B B' n : Nat} {v : Value} {xs : List Value} (h : w.ownsRow B 3 1 v n xs) (hB : B' ≤ B) : w.ownsRow B' 3 1 v n xs := by
  refine ⟨h.1, ?_⟩
  rcases h.2 with h' | ⟨g, cap, cur, h', h1, hg, h2⟩
  · exact .inl h'
  · exact .inr ⟨g, cap, cur, h', Nat.le_trans hB h1, hg, h2⟩
theorem ownLater {w w1 : World} {B n : Nat} {v : Value} {xs : List Value} (h : w.ownsRow B 3 1 v n xs) (hb : Below w.heap.size w w1) : w1.ownsRow B 3 1 v n xs := by
  refine ⟨h.1, ?_⟩
  rcases h.2 with h' | ⟨g, cap, cur, h', h1, hg, h2⟩
  · exact .inl h'
  · exact .inr ⟨g, cap, cur, h', h1, bkBelow hg hb, h2⟩
theorem ownFarG {w : World} {B n : Nat} {v : Value} {xs : List Value} (h : w.ownsRow B 3 1 v n xs) (k : Nat) (hk : k < B) (cs : Array Value) : (w.setRow k cs).ownsRow B 3 1 v n xs := by
  refine ⟨h.1, ?_⟩
  rcases h.2 with h' | ⟨g, cap, cur, h', h1, hg, h2⟩
  · exact .inl h'
  · exact .inr ⟨g, cap, cur, h', h1, (setRow_other w k g cs (by omega)).trans hg, h2⟩
set_option maxHeartbeats 16000000 in
set_option maxRecDepth 100000 in
theorem play_fine (a : Option Addr) (len cap : Nat) (A : Nat → Option Addr) (L C : Nat → Nat) (b off : Nat) (bb oo : Nat → Nat) (z : Nat → Nat → Int) (w : World) (h : LogAt w a len A L C b off bb oo z) (hlen : len ≤ 100) (hG : Good L z len) (n : Nat) (hn : n ≤ 100) (h0 : 0 < len) :
    Calls Try.prog 28 #[.slice a len cap, iv n] w fun e w' => ∃ v, e = .returned (.tuple #[v, iv 0]) ∧ w'.ownsRow w.heap.size 3 1 v (n * len) ((song z n len).map iv) ∧ Below w.heap.size w w' := by
  have H := Lib.hid h
  have HA := Lib.hid h.top
  have HG := Lib.hid hG
  clear h hG
  have l0 : (0 : Int) ≤ (len : Int) := by omega
  obtain ⟨i0, hi, hz0, hz1, hz2⟩ := info_parts info3
  have hn0 : (0 : Int) ≤ (n : Int) := by omega
  have hq : (n : Int) ≤ 200000 / (len : Int) := by
    exact Int.le_trans (by omega : (n : Int) ≤ 100) (Int.le_ediv_of_mul_le (by omega) (by omega))
  have HQ := Lib.hid hq
  clear hq
  go_enter Try.func28, Try.ntmps28
  go_upto_region 2 with (fail)
  go_loopw [19] (fun v wr => ∃ k : Nat, k ≤ len ∧ v = iv k ∧ Below w.heap.size w wr) (fun v _ => len - (intOf v).toNat)
  case atStart => exact ⟨0, by omega, rfl, Below.refl _ _⟩
  case round =>
    obtain ⟨k, hk, rfl, hB⟩ := hrel
    by_cases hlt : k < len
    · have hlt' : (k : Int) < (len : Int) := by omega
      have hk0 : (0 : Int) ≤ (k : Int) := by omega
      have hA := HA.out (by omega)
      subst hA
      have c0 := (hB.cell (p := ⟨b, off + k, none⟩) (H.out.low (by omega))).trans (H.out.row k hlt)
      have n14 : (0 : Int) ≤ 14 := by omega
      obtain ⟨ea, eb⟩ := H.out.at_ k hlt (by have := (HG.out k hlt).1; omega)
      rw [ea, (HG.out k hlt).1] at c0
      clear ea
      go_upto_region 7 with (fail)
      go_loopw [28] (fun v w2 => ∃ c : Nat, c ≤ 14 ∧ v = iv c ∧ Below w.heap.size w w2) (fun v _ => 14 - (intOf v).toNat)
      case atStart => exact ⟨0, by omega, rfl, hB⟩
      case round =>
        clear hB c0
        obtain ⟨c, hc, rfl, hB⟩ := hrel
        by_cases hc14 : c < 14
        · have hc0 : (0 : Int) ≤ (c : Int) := by omega
          have hc1 : (c : Int) < 14 := by omega
          have c1 := (hB.cell (p := ⟨bb k, oo k + c, none⟩) eb).trans (H.out.cell k hlt c (by have := (HG.out k hlt).1; omega))
          have hin := (HG.out k hlt).2 c hc14
          go_wp2_with (go_at_call 35; (with_reducible refine (in_yes _ _ _ _ hin.1 hin.2).mono ?_); rintro e w4 ⟨rfl, rfl⟩)
          exact ⟨⟨c + 1, by omega, by go_num, hB⟩, by simp [intOf]; omega⟩
        · obtain rfl : c = 14 := by omega
          go_wp2
          exact ⟨⟨k + 1, by omega, by go_num, hB⟩, by simp [intOf]; omega⟩
    · obtain rfl : k = len := by omega
      have e0 : ((k : Int) == 0) = false := by simp; omega
      have HB := Lib.hid hB
      go_upto_region 20 with (first
        | (go_at_call 35; (with_reducible refine (in_yes _ _ _ _ hn0 HQ.out).mono ?_); rintro e w4 ⟨rfl, rfl⟩)
        | (go_at_call 21; (with_reducible refine (new_any _).mono ?_); rintro e w1 ⟨rfl, hb1⟩; have Z1 := Lib.hid (heap_alloc_new w1 (Obj.cells #[iv 0, iv 0, iv 0, iv 0, iv 0, iv 0, iv 0, iv 0, iv 0, iv 0, iv 0, iv 0, iv 0, iv 0, iv 0, iv 0, iv 0, iv 0, iv 0, iv 0, iv 0, iv 0, iv 0, iv 0] 71)); have B1 := bdT HB.out HB.out.size hb1)
        | (refine wpBuild1 rfl 71 (.tmp 46) rfl (.agg T.new.cs) rfl T.new.cs (built71 _) ?_)
        | (refine wpList_store_row rfl 71 (.tmp 10) (.tmp 47) rfl (w1.heap.size) T.new.cs rfl rfl 71 _ Z1.out (T.i71 _) (T.sz T.zero _) (T.one _) ?_; have P2 := Lib.hid (setRow_heap _ _ _ T.new.cs _ _ Z1.out); have B2 := below_setRow (B1.alloc B1.size (Obj.cells #[iv 0, iv 0, iv 0, iv 0, iv 0, iv 0, iv 0, iv 0, iv 0, iv 0, iv 0, iv 0, iv 0, iv 0, iv 0, iv 0, iv 0, iv 0, iv 0, iv 0, iv 0, iv 0, iv 0, iv 0] 71)) (g := w1.heap.size) B1.size T.new.cs; clear Z1))
      have L1 := Lib.hid (bkLt P2.out)
      have L0 := Lib.hid B1.size
      go_loopw [11, 50] (fun s v w2 => ∃ r : Nat, r ≤ k ∧ v = iv r ∧ w2.ownsRow (w1.heap.size + 1) 3 1 s (n * r) ((song z n r).map iv) ∧ w2.heap[w1.heap.size]? = some (.cells (chips z n r).cs 71 (0, 0)) ∧ Below w.heap.size w w2) (fun _ v _ => k - (intOf v).toNat)
      case atStart => exact ⟨0, by omega, rfl, ⟨by simp [song], .inl ⟨rfl, by simp⟩⟩, P2.out, B2⟩
      case round =>
        clear P2 B2 hB HB
        obtain ⟨r, hr, rfl, hO, hP, hB⟩ := hrel
        have HO := Lib.hid hO
        have HP := Lib.hid hP
        clear hO hP
        by_cases hlt : r < k
        · have hlt' : (r : Int) < (k : Int) := by omega
          have hr0 : (0 : Int) ≤ (r : Int) := by omega
          have hA := HA.out (by omega)
          subst hA
          have c0 := (hB.cell (p := ⟨b, off + r, none⟩) (H.out.low (by omega))).trans (H.out.row r hlt)
          obtain ⟨ea, eb⟩ := H.out.at_ r hlt (by have := (HG.out r hlt).1; omega)
          rw [ea, (HG.out r hlt).1] at c0
          clear ea
          go_upto_region 23 with (fail)
          go_loopw [57] (fun v w3 => ∃ c : Nat, c ≤ 14 ∧ v = iv c ∧ w3.ownsRow (w1.heap.size + 1) 3 1 u11 (n * r) ((song z n r).map iv) ∧ w3.heap[w1.heap.size]? = some (.cells (puts z r (chips z n r) c).cs 71 (0, 0)) ∧ Below w.heap.size w w3) (fun v _ => 14 - (intOf v).toNat)
          case atStart => exact ⟨0, by omega, rfl, HO.out, HP.out, hB⟩
          case round =>
            clear HO HP hB c0
            obtain ⟨c, hc, rfl, hO, hP, hB⟩ := hrel
            have HO := Lib.hid hO
            have HP := Lib.hid hP
            clear hO hP
            by_cases hc14 : c < 14
            · have hc0 : (0 : Int) ≤ (c : Int) := by omega
              have hc1 : (c : Int) < 14 := by omega
              have c1 := (hB.cell (p := ⟨bb r, oo r + c, none⟩) eb).trans (H.out.cell r hlt c (by have := (HG.out r hlt).1; omega))
              by_cases hr00 : r = 0
              · have e1 : ((r : Int) == 0) = true := by simp; omega
                have HR0 := Lib.hid hr00
                clear hr00
                go_wp2_with (first
                  | (refine wpList_load_row rfl 71 (.tmp 10) rfl (w1.heap.size) rfl 71 _ (0, 0) _ HP.out Try.underlying71 rfl (T.i71 _) ?_)
                  | (go_at_call 54; (with_reducible refine (written_any (puts z r (chips z n r) c) (c : Int) (z r c) (by omega) (by omega) _).mono ?_); rintro e w5 ⟨rfl, hb5⟩; have P5 := Lib.hid (bkBelow HP.out hb5); have S5 := Lib.hid (ownLater HO.out hb5); have B5 := bdT hB hB.size hb5)
                  | (refine wpList_store_row rfl 71 (.tmp 10) (.tmp 79) rfl (w1.heap.size) (T.put (puts z r (chips z n r) c) c (z r c)).cs rfl rfl 71 _ P5.out (T.i71 _) (T.sz T.zero _) (T.one _) ?_; have P6 := Lib.hid (setRow_heap _ _ _ (T.put (puts z r (chips z n r) c) c (z r c)).cs _ _ P5.out); have S6 := Lib.hid (ownFarG S5.out w1.heap.size (by omega) (T.put (puts z r (chips z n r) c) c (z r c)).cs); have B6 := below_setRow B5 (g := w1.heap.size) L0.out (T.put (puts z r (chips z n r) c) c (z r c)).cs))
                exact ⟨⟨c + 1, by omega, by go_num, S6.out, by have := P6.out; rw [puts_put (.inl HR0.out)]; exact this, B6⟩, by simp [intOf]; omega⟩
              · have e1 : ((r : Int) == 0) = false := by simp; omega
                have HR0 := Lib.hid hr00
                have i0 : (0 : Int) ≤ (r : Int) - 1 := by omega
                have i1 : (r : Int) - 1 < (k : Int) := by omega
                have tn : ((r : Int) - 1).toNat = r - 1 := by omega
                have c2 := (hB.cell (p := ⟨b, off + (r - 1), none⟩) (H.out.low (by omega))).trans (H.out.row (r - 1) (by omega))
                obtain ⟨fa, fb⟩ := H.out.at_ (r - 1) (by omega) (by have := (HG.out (r - 1) (by omega)).1; omega)
                rw [fa, (HG.out (r - 1) (by omega)).1] at c2
                have c3 := (hB.cell (p := ⟨bb (r - 1), oo (r - 1) + c, none⟩) fb).trans (H.out.cell (r - 1) (by omega) c (by have := (HG.out (r - 1) (by omega)).1; omega))
                clear hr00 fa
                by_cases hz : z r c = z (r - 1) c
                · have HZ := Lib.hid hz
                  rw [← hz] at c3
                  clear hz
                  go_wp2
                  exact ⟨⟨c + 1, by omega, by go_num, HO.out, by rw [puts_skip (by rw [not_or]; exact ⟨HR0.out, fun h => h HZ.out⟩)]; exact HP.out, hB⟩, by simp [intOf]; omega⟩
                · have hz1 : (z r c != z (r - 1) c) = true := by simp [hz]
                  have HZ := Lib.hid hz
                  clear hz
                  go_wp2_with (first
                  | (refine wpList_load_row rfl 71 (.tmp 10) rfl (w1.heap.size) rfl 71 _ (0, 0) _ HP.out Try.underlying71 rfl (T.i71 _) ?_)
                  | (go_at_call 54; (with_reducible refine (written_any (puts z r (chips z n r) c) (c : Int) (z r c) (by omega) (by omega) _).mono ?_); rintro e w5 ⟨rfl, hb5⟩; have P5 := Lib.hid (bkBelow HP.out hb5); have S5 := Lib.hid (ownLater HO.out hb5); have B5 := bdT hB hB.size hb5)
                  | (refine wpList_store_row rfl 71 (.tmp 10) (.tmp 79) rfl (w1.heap.size) (T.put (puts z r (chips z n r) c) c (z r c)).cs rfl rfl 71 _ P5.out (T.i71 _) (T.sz T.zero _) (T.one _) ?_; have P6 := Lib.hid (setRow_heap _ _ _ (T.put (puts z r (chips z n r) c) c (z r c)).cs _ _ P5.out); have S6 := Lib.hid (ownFarG S5.out w1.heap.size (by omega) (T.put (puts z r (chips z n r) c) c (z r c)).cs); have B6 := below_setRow B5 (g := w1.heap.size) L0.out (T.put (puts z r (chips z n r) c) c (z r c)).cs))
                  exact ⟨⟨c + 1, by omega, by go_num, S6.out, by have := P6.out; rw [puts_put (.inr HZ.out)]; exact this, B6⟩, by simp [intOf]; omega⟩
            · obtain rfl : c = 14 := by omega
              have hp := puts_ok (chips_ok n HG.out r (by omega)) (HG.out r hlt).2 14 (Nat.le_refl _)
              have hnr : n * r ≤ 100 * 100 := Nat.mul_le_mul hn (by omega)
              go_upto_region 30 with (first
                | (refine wpList_load_row rfl 71 (.tmp 10) rfl (w1.heap.size) rfl 71 _ (0, 0) _ HP.out Try.underlying71 rfl (T.i71 _) ?_)
                | (go_at_call 42; (with_reducible refine (runs_any _ hp n (by omega) _).mono ?_); rintro e w5 ⟨g, rfl, N5, hb5⟩; have P5 := Lib.hid (bkBelow HP.out hb5); have S5 := Lib.hid (ownLater HO.out hb5); have B5 := bdT hB hB.size hb5; have hg5 := ownRowB N5 g rfl; have hl5 := bkLt HP.out)
                | (refine wpList_store_row rfl 71 (.tmp 10) (.tmp 86) rfl (w1.heap.size) (T.run (puts z r (chips z n r) 14) n).cs rfl rfl 71 _ P5.out (T.i71 _) (T.sz T.zero _) (T.one _) ?_; have P6 := Lib.hid (setRow_heap _ _ _ (T.run (puts z r (chips z n r) 14) n).cs _ _ P5.out); have S6 := Lib.hid (ownFarG S5.out w1.heap.size (by omega) (T.run (puts z r (chips z n r) 14) n).cs); have N6 := Lib.hid (ownFar N5 w1.heap.size (by omega) (T.run (puts z r (chips z n r) 14) n).cs); have B6 := below_setRow B5 (g := w1.heap.size) L0.out (T.run (puts z r (chips z n r) 14) n).cs))
              have NW := Lib.hid (newsOf (Below.refl _ _) (ownFarA N6.out) (vals_len _ _) (cellsGet N6.out))
              have hs6 := B6.size
              have hl6 := bkLt P6.out
              clear N5 N6 P5 S5 B5
              go_upto_region 31 with (at_builtin; refine wpList_append_own _ rfl _ _ 23 rfl (w1.heap.size + 1) 3 i0 (.int .i64 0) 1 8 Try.underlying23 hi hz0 hz1 hz2 rfl (by decide) _ _ _ rfl S6.out ⟨g, 0, none⟩ n n (((puts z r (chips z n r) 14).vals n).map iv) rfl (by simp [vals_len]) NW.out (by simp [Value.oneCell']) (by unfold maxLen; omega) (by omega) (by omega) ?_; intro v' w7 hown7 hgrow7 _; have P7 := grBlk P6.out hgrow7 (by intro h; have := ownRowB S6.out _ h.symm; omega); have B7 := B6.grown hgrow7 hs6 (fun q hq => by have := ownRowB S6.out q hq; have := L0.out; omega))
              go_wp2
              exact ⟨⟨r + 1, by omega, by go_num, ownEq hown7 (by rw [Nat.mul_succ]) (by simp [song]), P7, B7⟩, by simp [intOf]; omega⟩
        · obtain rfl : r = k := by omega
          go_wp2
          refine bodyPost_ret (results_tmp2 rfl _ _ _) rfl ⟨_, rfl, ownBase2 HO.out (by have := hb1.size; have := L0.out; omega), hB⟩
end Go.Proofs.Ytfpgidflaaefeaa.CH

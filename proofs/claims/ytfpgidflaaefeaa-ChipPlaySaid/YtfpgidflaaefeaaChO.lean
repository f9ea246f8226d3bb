/- slices.Grow from nothing and slices.Concat of two slices of ints; slices.Equal of empty slices. -/
import Derived.Test.YtfpgidflaaefeaaChK
import Derived.Lib.AppendZerosOnto
import Derived.Deep.AppendLies
namespace Go.Proofs.Ytfpgidflaaefeaa.CH
open Go.RowKit Go.Proofs.YtfpgidflaaefeaaW.PrintLast
set_option linter.unusedVariables false
set_option linter.unusedSimpArgs false
set_option maxHeartbeats 2000000 in
theorem equal_none (a b : Option Addr) (c d : Nat) (w : World) :
    Calls Try.prog 14 #[.slice a 0 c, .slice b 0 d] w fun e w' => e = .returned (.bool true) ∧ w = w' := by
  have e0 : ((0 : Int) == (0 : Int)) = true := by decide
  go_enter Try.func14, Try.ntmps14
  go_wp2
  go_loop [13] (fun v => v = iv 0) (fun v => 0)
  case atStart => rfl
  case round =>
    obtain rfl := hrel
    go_wp2
    go_ret
    exact ⟨rfl, rfl⟩
set_option maxHeartbeats 2000000 in
set_option maxRecDepth 100000 in
theorem grow_any (n : Nat) (hn : n ≤ 1000000) (w : World) :
    Calls Try.prog 56 #[.slice none 0 0, iv n] w fun e w' => ∃ v, e = .returned v ∧ w'.ownsRow w.heap.size 3 1 v 0 [] ∧ Below w.heap.size w w' := by
  obtain ⟨i0, hi, hz0, hz1, hz2⟩ := info_parts info3
  by_cases h : n = 0
  · subst h
    go_enter Try.func56, Try.ntmps56
    go_wp2
    go_ret
    exact ⟨_, rfl, ⟨rfl, .inl ⟨rfl, rfl⟩⟩, Below.refl _ _⟩
  · have hn0 : (0 : Int) < n := by omega
    have hn1 : decide ((n : Int) < 0) = false := decide_eq_false (by omega)
    have hr := fun ty => Lib.run_append_nil_zeros (P := Try.prog) w 23 3 ty 3 i0 (.int .i64 0) .i64 .i64 Try.underlying23 Try.underlying3 hi hz0 n (by omega) (by omega) (by omega) (by rw [hz2]; omega)
    have hG := grownCap_ge w n 0 3
    have hM := grownCap_le_maxLen w n 0 3 (by unfold maxLen; omega)
    generalize grownCap w n 0 3 = G at hr hG hM
    have HR := Lib.hid hr
    have HG := Lib.hid hG
    have HM := Lib.hid hM
    have hG63 : (G : Int) ≤ 9223372036854775807 := by unfold maxLen at hM; omega
    clear hr hG hM
    go_enter Try.func56, Try.ntmps56
    go_wp2_with (at_builtin; refine Lib.wpList_append_run _ rfl _ _ _ _ rfl _ _ rfl rfl _ _ (HR.out _) ?_)
    go_ret
    refine ⟨_, rfl, ⟨rfl, .inr ⟨w.heap.size, G, _, rfl, Nat.le_refl _, heap_alloc_new w.drew _, Nat.zero_le _, HM.out, ?_, by simp⟩⟩, ((Below.refl _ _).drew).alloc (Nat.le_refl _) _⟩
    have := HG.out
    simp [Builtin.zeroCells, Value.cells]
    omega
theorem newsOf {w wr : World} {g n : Nat} {xs : List Int} (hb : Below w.heap.size w wr) (hg : g < w.heap.size) (hl : xs.length = n) (h : ∀ i, i < n → w.cell? ⟨g, i, none⟩ = some (iv (xs.getD i 0))) :
    ∀ j u, (xs.map iv)[j]? = some u → wr.cell? ((⟨g, 0, none⟩ : Addr).add j) = some u := by
  intro j u hu
  have hj : j < n := by
    have := (List.getElem?_eq_some_iff.1 hu).1
    simpa [hl] using this
  have hadd : (⟨g, 0, none⟩ : Addr).add j = ⟨g, j, none⟩ := by unfold Addr.add; split <;> simp_all
  rw [hadd, hb.cell (p := ⟨g, j, none⟩) hg, h j hj]
  simp only [List.getElem?_map] at hu
  rw [← hu]
  simp [show j < xs.length by omega]
theorem ownEq {w : World} {B n m : Nat} {v : Value} {xs ys : List Value} (h : w.ownsRow B 3 1 v n xs) (e : n = m) (e2 : xs = ys) : w.ownsRow B 3 1 v m ys := e ▸ e2 ▸ h
theorem ownRowB {w : World} {B n : Nat} {v : Value} {xs : List Value} (h : w.ownsRow B 3 1 v n xs) : ∀ k, v.ownBlock = some k → B ≤ k := by
  intro k hk
  rcases h.2 with ⟨rfl, _⟩ | ⟨g', cap', cur, rfl, h1, _⟩
  · simp [Value.ownBlock] at hk
  · simp [Value.ownBlock] at hk
    omega
/-- the numbers of two slices, as far as they are handed on -/
def two (xs ys : List Int) : Nat → List Int
  | 0 => []
  | 1 => xs
  | _ => xs ++ ys
set_option maxHeartbeats 8000000 in
set_option maxRecDepth 100000 in
theorem concat_any (B g h n m ca cb : Nat) (xs ys : List Int) (hn : n ≤ 300000) (hm : m ≤ 300000) (hxl : xs.length = n) (hyl : ys.length = m) (w : World) (hB : w.heap[B]? = some (.cells #[.slice (some ⟨g, 0, none⟩) n ca, .slice (some ⟨h, 0, none⟩) m cb] 23 (0, 0)))
    (hg : g < w.heap.size) (hh : h < w.heap.size) (hA : ∀ i, i < n → w.cell? ⟨g, i, none⟩ = some (iv (xs.getD i 0))) (hC : ∀ i, i < m → w.cell? ⟨h, i, none⟩ = some (iv (ys.getD i 0))) :
    Calls Try.prog 32 #[.slice (some ⟨B, 0, none⟩) 2 2] w fun e w' => ∃ v, e = .returned v ∧ w'.ownsRow w.heap.size 3 1 v (n + m) ((xs ++ ys).map iv) ∧ Below w.heap.size w w' := by
  obtain ⟨i0, hi, hz0, hz1, hz2⟩ := info_parts info3
  have hlt := bkLt hB
  have HB := Lib.hid hB
  have HA := Lib.hid hA
  have HC := Lib.hid hC
  have b0 := (bkCell hB 0).trans (show _ = some (Value.slice (some ⟨g, 0, none⟩) n ca) from rfl)
  have b1 := (bkCell hB 1).trans (show _ = some (Value.slice (some ⟨h, 0, none⟩) m cb) from rfl)
  clear hB hA hC
  go_enter Try.func32, Try.ntmps32
  go_wp2
  go_loop [3, 11] (fun s v => ∃ k : Nat, k ≤ 2 ∧ v = iv k ∧ s = iv (if k = 0 then 0 else if k = 1 then (n : Int) else n + m)) (fun _ v => 2 - (intOf v).toNat)
  case atStart => exact ⟨0, by omega, rfl, rfl⟩
  case round =>
    obtain ⟨k, hk, rfl, rfl⟩ := hrel
    rcases (by omega : k = 0 ∨ k = 1 ∨ k = 2) with rfl | rfl | rfl
    · have d0 : decide ((n : Int) < 0) = false := decide_eq_false (by omega)
      go_wp2
      exact ⟨⟨1, by omega, rfl, by simp⟩, by simp [intOf]⟩
    · have d0 : decide ((n : Int) + m < 0) = false := decide_eq_false (by omega)
      go_wp2
      exact ⟨⟨2, by omega, rfl, by simp⟩, by simp [intOf]⟩
    · have G2 : ∀ W : World, Calls Try.prog 56 #[.slice none 0 0, iv ((n : Int) + m)] W fun e w' => ∃ v, e = .returned v ∧ w'.ownsRow W.heap.size 3 1 v 0 [] ∧ Below W.heap.size W w' := fun W => grow_any (n + m) (by omega) W
      have G2H := Lib.hid G2
      clear G2
      go_wp2_with (go_at_call 56; (with_reducible refine (G2H.out _).mono ?_); rintro e w1 ⟨v, rfl, O1, B1⟩)
      go_loopw [6, 27] (fun s i wr => ∃ k : Nat, k ≤ 2 ∧ i = iv k ∧ wr.ownsRow w.heap.size 3 1 s (two xs ys k).length ((two xs ys k).map iv) ∧ Below w.heap.size w wr) (fun _ v _ => 2 - (intOf v).toNat)
      case atStart => exact ⟨0, by omega, rfl, O1, B1⟩
      case round =>
        obtain ⟨k, hk, rfl, hO, hBl⟩ := hrel
        clear O1 B1 b0 b1
        have b0 := (bkCell (bkBelow HB.out hBl) 0).trans (show _ = some (Value.slice (some ⟨g, 0, none⟩) n ca) from rfl)
        have b1 := (bkCell (bkBelow HB.out hBl) 1).trans (show _ = some (Value.slice (some ⟨h, 0, none⟩) m cb) from rfl)
        rcases (by omega : k = 0 ∨ k = 1 ∨ k = 2) with rfl | rfl | rfl
        · have hnews := newsOf hBl hg hxl HA.out
          have NH := Lib.hid hnews
          have OH := Lib.hid hO
          clear hnews hO
          go_wp2_with (at_builtin; refine wpList_append_own _ rfl _ _ 23 rfl w.heap.size 3 i0 (.int .i64 0) 1 8 Try.underlying23 hi hz0 hz1 hz2 rfl (by decide) _ _ _ rfl OH.out ⟨g, 0, none⟩ n ca (xs.map iv) rfl (by simp [hxl]) NH.out (by simp [Value.oneCell']) (by simp [two]; unfold maxLen; omega) (by simp [two]; omega) hBl.size ?_; intro v' w2 hown2 hgrow2 _)
          exact ⟨⟨1, by omega, rfl, ownEq hown2 (by simp [two, hxl]) (by simp [two]), hBl.grown hgrow2 hBl.size (ownRowB OH.out)⟩, by simp [intOf]⟩
        · have hnews := newsOf hBl hh hyl HC.out
          have NH := Lib.hid hnews
          have OH := Lib.hid hO
          clear hnews hO
          go_wp2_with (at_builtin; refine wpList_append_own _ rfl _ _ 23 rfl w.heap.size 3 i0 (.int .i64 0) 1 8 Try.underlying23 hi hz0 hz1 hz2 rfl (by decide) _ _ _ rfl OH.out ⟨h, 0, none⟩ m cb (ys.map iv) rfl (by simp [hyl]) NH.out (by simp [Value.oneCell']) (by simp [two, hxl]; unfold maxLen; omega) (by simp [two, hxl]; omega) hBl.size ?_; intro v' w2 hown2 hgrow2 _)
          exact ⟨⟨2, by omega, rfl, ownEq hown2 (by simp [two, hyl]) (by simp [two]), hBl.grown hgrow2 hBl.size (ownRowB OH.out)⟩, by simp [intOf]⟩
        · go_wp2
          go_ret
          exact ⟨_, rfl, ownEq hO (by simp [two, hxl, hyl]) (by simp [two]), hBl⟩
end Go.Proofs.Ytfpgidflaaefeaa.CH

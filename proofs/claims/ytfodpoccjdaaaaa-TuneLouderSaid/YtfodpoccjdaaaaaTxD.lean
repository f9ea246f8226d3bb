/- Samples: the answers that are the same, Clone, mapped, Made. -/
import Derived.Test.YtfodpoccjdaaaaaTxC
import Derived.Lib.SliceRun
import Derived.Shelf.Abstract
namespace Go.Proofs.Ytfodpoccjdaaaaa.TX
open Go.RowKit Go.Proofs.YtfodpoccjdaaaaaW.PrintLast
set_option linter.unusedVariables false
set_option linter.unusedSimpArgs false
theorem addLit (b o j : Nat) : (⟨b, o, none⟩ : Addr).add j = ⟨b, o + j, none⟩ := by unfold Addr.add; split <;> simp_all
theorem upto_step {F H : Nat → Int} {j : Nat} (h : ∀ i, i < j → F i = H i) : ∀ i, i < j + 1 → (fun i => if i = j then H j else F i) i = H i := by
  intro i hi
  by_cases e : i = j
  · simp [e]
  · simp [e]; exact h i (by omega)
theorem ownCell {w : World} {B g n c m : Nat} {xs : List Value} (h : w.ownsRow B 3 1 (.slice (some ⟨g, 0, none⟩) n c) m xs) {p : Addr} (hp : g ≠ p.block) (u : Value) : (w.setCell p u).ownsRow B 3 1 (.slice (some ⟨g, 0, none⟩) n c) m xs := by
  refine ⟨h.1, ?_⟩
  rcases h.2 with ⟨h', _⟩ | ⟨g', cap', cur, h', h1, hg, h2⟩
  · simp at h'
  · simp only [Value.slice.injEq, Option.some.injEq, Addr.mk.injEq, and_true, true_and] at h'
    obtain ⟨rfl, rfl, rfl⟩ := h'
    exact .inr ⟨g, c, cur, rfl, h1, bkFar hg hp u, h2⟩
theorem cellRow {w : World} {g k i : Nat} {cs : Array Value} (hne : g ≠ k) : (w.setRow k cs).cell? ⟨g, i, none⟩ = w.cell? ⟨g, i, none⟩ := by
  unfold World.cell?
  rw [setRow_other w k g cs hne]
theorem DataAt.setRow {w : World} {A : Option Addr} {n b o k : Nat} {xs : Nat → Int} (h : DataAt w A n b o xs) (hne : 0 < n → b ≠ k) (cs : Array Value) : DataAt (w.setRow k cs) A n b o xs where
  top := h.top
  low hp := by have := h.low hp; simpa using this
  cell i hi := (cellRow (hne (by omega))).trans (h.cell i hi)
theorem bits_bd {b h : Int} (hb : Bits b h) : 1 ≤ h ∧ h ≤ 32768 := by rcases hb with ⟨_, rfl⟩ | ⟨_, rfl⟩ <;> omega
theorem S.set1 (s : S) (A D : Option Addr) (n c m d : Nat) : (s.cs A n c).setIfInBounds 1 (.slice D m d) = s.cs D m d := rfl
theorem clp_cases (h v : Int) (hh : 1 ≤ h) : (if -h < (if v < h - 1 then v else h - 1) then (if v < h - 1 then v else h - 1) else -h) = clp h v := by
  unfold clp
  repeat' split
  all_goals omega
end Go.Proofs.Ytfodpoccjdaaaaa.TX

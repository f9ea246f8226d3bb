/- Rows of ints among the parameters of a law. -/
import Derived.Test.YtfodpoccjdaaaaaTxA
namespace Go.Proofs.Ytfodpoccjdaaaaa.SX
open Go.RowKit Go.Proofs.YtfodpoccjdaaaaaW.PrintLast Go.Proofs.Ytfodpoccjdaaaaa.TX
set_option linter.unusedVariables false
set_option linter.unusedSimpArgs false
theorem addPlain {w : World} {a : Addr} {v : Value} (i : Nat) (h : w.cell? (a.add i) = some v) : a.add i = ⟨a.block, a.off + i, none⟩ := by
  have hs := World.cell?_spot h
  obtain ⟨b, o, s⟩ := a
  unfold Addr.add at hs ⊢
  split <;> simp_all
theorem plainZero {w : World} {a : Addr} {v : Value} (h : w.cell? (a.add 0) = some v) : a = ⟨a.block, a.off, none⟩ := by
  have hs := World.cell?_spot h
  obtain ⟨b, o, s⟩ := a
  simp [Addr.add] at hs
  rw [hs]
def RowOf (w : World) (A : Option Addr) (len cap : Nat) (zs : List Int) : Prop := (A = none ∧ len = 0 ∧ cap = 0 ∧ zs = []) ∨ ∃ x, A = some x ∧ len ≤ cap ∧ cap ≤ maxLen ∧ zs.length = cap ∧ (∀ i, i < zs.length → w.cell? (x.add i) = some (.int .i64 (zs.getD i 0))) ∧ ∀ n ∈ zs, (Lit.int .i64 n).wf = true
theorem dataOf {w : World} {A : Option Addr} {len cap : Nat} {zs : List Int} (h : RowOf w A len cap zs) :
    len ≤ cap ∧ len ≤ 9223372036854775807 ∧ ∃ b o, DataAt w A len b o (fun i => zs.getD i 0) := by
  rcases h with ⟨rfl, rfl, rfl, rfl⟩ | ⟨x, rfl, hl, hmx, hz, hc, _⟩
  · exact ⟨Nat.le_refl _, by omega, 0, 0, fun h => by omega, fun h => by omega, fun i h => by omega⟩
  · refine ⟨hl, by unfold maxLen at hmx; omega, x.block, x.off, fun hp => congrArg some (plainZero (hc 0 (by omega))), fun hp => ?_, fun i hi => ?_⟩
    · have h0 := hc 0 (by omega)
      have := World.block_lt_of_cell? _ _ h0
      rwa [addPlain 0 h0] at this
    · have h0 := hc i (by omega)
      rwa [addPlain i h0] at h0
theorem wfR {x : Int} (h : (Lit.int .i64 x).wf = true) : -9223372036854775808 ≤ x ∧ x ≤ 9223372036854775807 := by
  simp [Lit.wf, IntKind.min, IntKind.max, IntKind.signed, IntKind.bits] at h
  omega
end Go.Proofs.Ytfodpoccjdaaaaa.SX

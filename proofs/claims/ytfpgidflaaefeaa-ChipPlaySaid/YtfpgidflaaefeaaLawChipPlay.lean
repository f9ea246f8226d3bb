/- ChipPlay: what a register log sounds like; no condition. -/
import Derived.Test.YtfpgidflaaefeaaRows
import Derived.Test.YtfpgidflaaefeaaChY
import Derived.WalkKit
import Derived.ProofKit
import Derived.OpenShut
import Derived.ShutString
import Derived.ChangeOld
import Derived.Below
import Derived.SizedLaws
import Derived.Deep.Fields
import Derived.ChangeSame
import Derived.Deep.Slices
import Derived.Deep.Matrix
namespace Go.Proofs.Ytfpgidflaaefeaa.chipPlay
open Go.ChangeShapes Go.WideShapes Go.ChangeAt Go.RowKit Go.Deep
open Go.ChangeMaps (open_string shut_string)
open Go.Proofs.Ytfpgidflaaefeaa.CH
set_option linter.unusedVariables false
theorem own : ownKnob Try.prog.godebug = none := by kernel_rfl
theorem laidOut : laidOutB Try.prog = true := by kernel_rfl
def IsRow (k : IntKind) (w : World) (a : Option Addr) (len cap : Nat) (zs : List Int) : Prop :=
  (a = none ∧ len = 0 ∧ cap = 0 ∧ zs = []) ∨
  ∃ x, a = some x ∧ len ≤ cap ∧ cap ≤ maxLen ∧ zs.length = cap ∧ (∀ i, i < zs.length → w.cell? (x.add i) = some (.int k (zs.getD i 0))) ∧ ∀ n ∈ zs, (Lit.int k n).wf = true
theorem cons_of {α : Type} {n : Nat} : ∀ {l : List α}, l.length = n + 1 → ∃ c t, l = c :: t ∧ t.length = n
  | c :: t, h => ⟨c, t, rfl, by simpa using h⟩
theorem nil_of {α : Type} : ∀ {l : List α}, l.length = 0 → l = []
  | [], _ => rfl
set_option maxHeartbeats 8000000 in
set_option maxRecDepth 100000 in
theorem lifted (os : Os) (started : os.Started) (H : Type) (enc : TypeId × Value → H) :
    ReturnsInHanded {} Try.checked os 11 .any (Rows.chipPlaySpec.pre6 enc Try.prog Try.f11 Rows.chipPlayRow.domain false) (Rows.chipPlaySpec.post enc Try.prog Try.f11 false true false false) := by
  refine returnsInHanded_of_change_sized (C := Try.checked) own started (by kernel_rfl) Try.func11
    (ChangeSpec.witness6 (enc := enc) (C := Try.checked) false ⟨#[], #[.slice none 0 0, .int .i64 0], []⟩ 8 (by kernel_rfl) (by kernel_rfl) (by kernel_rfl) (by kernel_rfl)) ?_
  intro W base args ds gs before hval0 hW hcnd hsz0 _
  have hval : ∀ (j : Nat) t v, Try.f11.params[j]? = some t → args[j]? = some v → Value.okWide Try.prog W .any base t v := hval0
  have hW' := hW
  obtain ⟨p, q, hA0, hV, rfl, hfz, hnd⟩ := hW
  have hA : DataW.TrodAll enc Try.prog W 0 (fun _ => true) true Try.f11.params.toList args.toList ds p := hA0
  rw [Try.params11] at hA hval
  obtain ⟨v0, vs0, d0, ds0, p0, q0, hargs, rfl, rfl, h0, r0⟩ := trodAll_cons hA
  obtain ⟨v1, vs1, d1, ds1, p1, q1, rfl, rfl, rfl, h1, r1⟩ := trodAll_cons r0
  obtain ⟨rfl, rfl, rfl⟩ := trodAll_nil r1
  obtain rfl : args = #[v0, v1] := by cases args; simp_all
  obtain ⟨rfl, rfl⟩ := trodVars_none hV
  have k0 := h0
  have lt0 : ∀ x ∈ p0, x.block < W.heap.size := by obtain ⟨m, hm⟩ := k0; exact DataW.trod_lt m _ _ _ hm
  obtain ⟨A0, len0, cap0, rfl⟩ := okWide_slice Try.underlying58 (hval 0 58 v0 rfl rfl)
  obtain ⟨fuel0, hy0⟩ := h0
  replace hy0 : DataW.trod enc Try.prog W 0 (fun _ => true) true fuel0 58 [.slice A0 len0 cap0] = some (d0, p0) := hy0
  have z0 : len0 = 0 ∨ ∃ (a : Addr) (A : Nat → Option Addr) (L C : Nat → Nat) (Z : Nat → List Int), A0 = some a ∧ len0 ≤ cap0 ∧ (∀ r, r < cap0 → W.cell? (a.add r) = some (.slice (A r) (L r) (C r)) ∧ L r ≤ C r ∧ (A r = none → C r = 0) ∧ ∀ a', A r = some a' → ∀ c, c < C r → W.cell? (a'.add c) = some (.int .i64 ((Z r).getD c 0))) ∧ ∀ r, r < cap0 → ∀ n ∈ Z r, (Lit.int .i64 n).wf = true := by
    rcases open_int_rows Try.underlying58 Try.underlying23 Try.underlying3 (by kernel_rfl) (by kernel_rfl) hy0 with ⟨hcs, _⟩ | ⟨a, l, c, A, L, C, Z, hcs, _, hl, _, _, hr⟩
    · have hq := (List.cons.inj hcs).1
      simp only [Value.slice.injEq] at hq
      exact .inl hq.2.1
    · have hq := (List.cons.inj hcs).1
      simp only [Value.slice.injEq] at hq
      obtain ⟨rfl, rfl, rfl⟩ := hq
      exact .inr ⟨a, A, L, C, Z, rfl, hl, fun r h => by obtain ⟨h1, h2, h3, h4, h5, h6, h7⟩ := hr r h; exact ⟨h1, h2, h6, fun a' ha => (h7 a' ha).2⟩, fun r h => (hr r h).2.2.2.2.1⟩
  obtain ⟨a1, rfl, rfl, rfl, w1⟩ := open_int Try.underlying3 (hval 1 3 v1 rfl rfl) h1
  clear hA0 hval0 hsz0
  refine (play_law A0 len0 cap0 W a1 z0).mono fun e W' ⟨he, bel0⟩ => ?_
  have bel : Below W.heap.size W W' := bel0
  subst he
  exact ⟨_, rfl, _, _, _, [], _, [], hW', trodAll_mk1 (shut_bool Try.underlying4 _), (trodAll_cons_mk (Below.trod laidOut (by kernel_rfl) (of_decide_eq_true (by kernel_rfl)) k0 bel lt0) (trodAll_cons_mk (shut_int Try.underlying3 w1) trodAll_mk0)), rfl, bel.frame _, fun h => by cases h⟩
theorem over : Rows.chipPlayRow.holds Try.pinned (OpenSpec.ofChange Rows.chipPlaySpec) :=
  OpenClaim.holds_of_wide 11 Try.f11 rfl rfl rfl rfl rfl rfl rfl ⟨rfl, rfl, rfl, rfl, rfl⟩ rfl rfl rfl rfl rfl (by kernel_rfl) Try.func11 (by kernel_rfl)
    (of_decide_eq_true (by kernel_rfl)) (by unfold Func.isWrapper; first | (rw [if_pos (by decide +kernel)]; kernel_rfl) | (rw [if_neg (by decide +kernel)]; exact ⟨rfl, rfl⟩))
    (fun os started H enc _ => lifted os started H enc)
theorem proved : Rows.ChipPlaySaid := over
#print axioms proved
end Go.Proofs.Ytfpgidflaaefeaa.chipPlay

/- ChipRun: the chip's values and state through any script of at most sixty writes and runs; no condition. -/
import Derived.Test.YtfpgidflaaefeaaRows
import Derived.Test.YtfpgidflaaefeaaChS
import Derived.WalkKit
import Derived.ProofKit
import Derived.OpenShut
import Derived.ShutString
import Derived.ChangeOld
import Derived.Below
import Derived.SizedLaws
import Derived.Deep.Fields
import Derived.ChangeSame
import Derived.Deep.Slices
namespace Go.Proofs.Ytfpgidflaaefeaa.chipRun
open Go.ChangeShapes Go.WideShapes Go.ChangeAt Go.RowKit Go.Deep
open Go.ChangeMaps (open_string shut_string)
open Go.Proofs.Ytfpgidflaaefeaa.CH
set_option linter.unusedVariables false
theorem own : ownKnob Try.prog.godebug = none := by kernel_rfl
theorem laidOut : laidOutB Try.prog = true := by kernel_rfl
def IsRow (k : IntKind) (w : World) (a : Option Addr) (len cap : Nat) (zs : List Int) : Prop :=
  (a = none ∧ len = 0 ∧ cap = 0 ∧ zs = []) ∨
  ∃ x, a = some x ∧ len ≤ cap ∧ cap ≤ maxLen ∧ zs.length = cap ∧ (∀ i, i < zs.length → w.cell? (x.add i) = some (.int k (zs.getD i 0))) ∧ ∀ n ∈ zs, (Lit.int k n).wf = true
theorem cons_of {α : Type} {n : Nat} : ∀ {l : List α}, l.length = n + 1 → ∃ c t, l = c :: t ∧ t.length = n
  | c :: t, h => ⟨c, t, rfl, by simpa using h⟩
theorem nil_of {α : Type} : ∀ {l : List α}, l.length = 0 → l = []
  | [], _ => rfl
/-- a slice of structs of numbers, read cell by cell -/
theorem numbers_of {H : Type} {enc : TypeId × Value → H} {P : Program} {w : World} {base : Nat} {held : Bool} {t e : TypeId} {fs : Array Field} {fuel len cap : Nat} {A : Option Addr} {k : IntKind} {x : DataW H × List MemPlace} (ht : P.underlying t = some (.slice e)) (he : P.underlying e = some (.struct fs))
    (h1 : oneCellFields P fs = true) (hC : P.cellsOf e = fs.size) (hk : ∀ (j : Nat) (f : Field), fs[j]? = some f → P.underlying f.type = some (.int k)) (h : DataW.trod enc P w base (fun _ => true) held fuel t [.slice A len cap] = some x) :
    len = 0 ∨ ∃ a, A = some a ∧ ∀ i, i < len → ∀ j, j < fs.size → ∃ z, w.cell? (a.add (i * fs.size + j)) = some (.int k z) ∧ (Lit.int k z).wf = true := by
  rcases open_slice ht h with ⟨hcs, _⟩ | ⟨a, l, c, m, n, D, Pl, hcs, _, hl, _, hmm, _, hi⟩
  · left
    have hq := (List.cons.inj hcs).1
    simp only [Value.slice.injEq] at hq
    exact hq.2.1
  · right
    have hq := (List.cons.inj hcs).1
    simp only [Value.slice.injEq] at hq
    obtain ⟨rfl, rfl, rfl⟩ := hq
    simp only [if_true] at hmm
    refine ⟨a, rfl, fun i hil j hj => ?_⟩
    obtain ⟨row, hrow, hread⟩ := hi i (by omega)
    rw [hC] at hrow
    obtain ⟨ys, n', _, _, _, hyl, hf⟩ := DataW.trod_struct he hread
    obtain ⟨_, hrl, hat⟩ := World.cells?_some hrow
    have hfj : fs[j]? = some fs[j] := Array.getElem?_eq_getElem hj
    obtain ⟨o1, o2⟩ := hone_of h1 j _ hfj
    have hr := hf j _ hfj
    have hrj : j < row.length := by omega
    rw [o1, o2, List.drop_eq_getElem_cons hrj, List.take_succ_cons, List.take_zero, List.getElem?_eq_getElem (l := ys) (i := j) (by omega)] at hr
    obtain ⟨z, hz, _, hw⟩ := DataW.trod_int (hk j _ hfj) hr
    have hz' := (List.cons.inj hz).1
    refine ⟨z, ?_, hw⟩
    rw [← Go.Deep.add_add, hat j (by omega), List.getElem?_eq_getElem hrj, hz']
set_option maxHeartbeats 8000000 in
set_option maxRecDepth 100000 in
theorem lifted (os : Os) (started : os.Started) (H : Type) (enc : TypeId × Value → H) :
    ReturnsInHanded {} Try.checked os 12 .any (Rows.chipRunSpec.pre6 enc Try.prog Try.f12 Rows.chipRunRow.domain false) (Rows.chipRunSpec.post enc Try.prog Try.f12 false true false false) := by
  refine returnsInHanded_of_change_sized (C := Try.checked) own started (by kernel_rfl) Try.func12
    (ChangeSpec.witness6 (enc := enc) (C := Try.checked) false ⟨#[], #[.slice none 0 0], []⟩ 8 (by kernel_rfl) (by kernel_rfl) (by kernel_rfl) (by kernel_rfl)) ?_
  intro W base args ds gs before hval0 hW hcnd hsz0 _
  have hval : ∀ (j : Nat) t v, Try.f12.params[j]? = some t → args[j]? = some v → Value.okWide Try.prog W .any base t v := hval0
  have hW' := hW
  obtain ⟨p, q, hA0, hV, rfl, hfz, hnd⟩ := hW
  have hA : DataW.TrodAll enc Try.prog W 0 (fun _ => true) true Try.f12.params.toList args.toList ds p := hA0
  rw [Try.params12] at hA hval
  obtain ⟨v0, vs0, d0, ds0, p0, q0, hargs, rfl, rfl, h0, r0⟩ := trodAll_cons hA
  obtain ⟨rfl, rfl, rfl⟩ := trodAll_nil r0
  obtain rfl : args = #[v0] := by cases args; simp_all
  obtain ⟨rfl, rfl⟩ := trodVars_none hV
  have k0 := h0
  have lt0 : ∀ x ∈ p0, x.block < W.heap.size := by obtain ⟨m, hm⟩ := k0; exact DataW.trod_lt m _ _ _ hm
  obtain ⟨A0, len0, cap0, rfl⟩ := okWide_slice Try.underlying55 (hval 0 55 v0 rfl rfl)
  obtain ⟨fuel0, hy0⟩ := h0
  replace hy0 : DataW.trod enc Try.prog W 0 (fun _ => true) true fuel0 55 [.slice A0 len0 cap0] = some (d0, p0) := hy0
  have z0 : len0 = 0 ∨ ∃ a, A0 = some a ∧ ∀ i, i < len0 → ∀ j, j < 3 → ∃ x, W.cell? (a.add (i * 3 + j)) = some (.int .i64 x) ∧ (Lit.int .i64 x).wf = true := by
    refine numbers_of Try.underlying55 Try.underlying54 (by kernel_rfl) (by kernel_rfl) (fun j f hj => ?_) hy0
    rcases (by have := (Array.getElem?_eq_some_iff.1 hj).1; simp at this; omega : j = 0 ∨ j = 1 ∨ j = 2) with rfl | rfl | rfl <;> (simp at hj; subst hj; exact Try.underlying3)
  clear hA0 hval0 hsz0
  refine (script_any A0 len0 cap0 W z0).mono fun e W' ⟨he, bel0⟩ => ?_
  have bel : Below W.heap.size W W' := bel0
  subst he
  exact ⟨_, rfl, _, _, _, [], _, [], hW', trodAll_mk1 (shut_bool Try.underlying4 _), (trodAll_cons_mk (Below.trod laidOut (by kernel_rfl) (of_decide_eq_true (by kernel_rfl)) k0 bel lt0) trodAll_mk0), rfl, bel.frame _, fun h => by cases h⟩
theorem over : Rows.chipRunRow.holds Try.pinned (OpenSpec.ofChange Rows.chipRunSpec) :=
  OpenClaim.holds_of_wide 12 Try.f12 rfl rfl rfl rfl rfl rfl rfl ⟨rfl, rfl, rfl, rfl, rfl⟩ rfl rfl rfl rfl rfl (by kernel_rfl) Try.func12 (by kernel_rfl)
    (of_decide_eq_true (by kernel_rfl)) (by unfold Func.isWrapper; first | (rw [if_pos (by decide +kernel)]; kernel_rfl) | (rw [if_neg (by decide +kernel)]; exact ⟨rfl, rfl⟩))
    (fun os started H enc _ => lifted os started H enc)
theorem proved : Rows.ChipRunSaid := over
#print axioms proved
end Go.Proofs.Ytfpgidflaaefeaa.chipRun

/- ChipSound: what four operators sound like; no condition. -/
import Derived.Test.YtfodpoccjdaaaaaRows
import Derived.Test.YtfodpoccjdaaaaaReS
import Derived.WalkKit
import Derived.ProofKit
import Derived.OpenShut
import Derived.ShutString
import Derived.ChangeOld
import Derived.Below
import Derived.SizedLaws
import Derived.Deep.Fields
import Derived.ChangeSame
import Derived.Deep.Slices
import Derived.Deep.Matrix
namespace Go.Proofs.Ytfodpoccjdaaaaa.chipSound
open Go.ChangeShapes Go.WideShapes Go.ChangeAt Go.RowKit Go.Deep
open Go.ChangeMaps (open_string shut_string)
open Go.Proofs.Ytfodpoccjdaaaaa.CS
set_option linter.unusedVariables false
theorem own : ownKnob Try.prog.godebug = none := by kernel_rfl
theorem laidOut : laidOutB Try.prog = true := by kernel_rfl
theorem okWide_array {P : Program} {w : World} {r : Reach} {b0 : Nat} {t e : TypeId} {n : Nat} {v : Value} (ht : P.underlying t = some (.array n e)) (h : Value.okWide P w r b0 t v) : ∃ cs, v = .agg cs ∧ cs.size = P.cellsOf t := by
  simp only [Value.okWide, ht] at h
  obtain ⟨cs, h1, h2, _⟩ := h
  exact ⟨cs, h1, h2⟩
def IsRow (k : IntKind) (w : World) (a : Option Addr) (len cap : Nat) (zs : List Int) : Prop :=
  (a = none ∧ len = 0 ∧ cap = 0 ∧ zs = []) ∨
  ∃ x, a = some x ∧ len ≤ cap ∧ cap ≤ maxLen ∧ zs.length = cap ∧ (∀ i, i < zs.length → w.cell? (x.add i) = some (.int k (zs.getD i 0))) ∧ ∀ n ∈ zs, (Lit.int k n).wf = true
theorem cons_of {α : Type} {n : Nat} : ∀ {l : List α}, l.length = n + 1 → ∃ c t, l = c :: t ∧ t.length = n
  | c :: t, h => ⟨c, t, rfl, by simpa using h⟩
theorem nil_of {α : Type} : ∀ {l : List α}, l.length = 0 → l = []
  | [], _ => rfl
set_option maxHeartbeats 8000000 in
set_option maxRecDepth 100000 in
theorem lifted (os : Os) (started : os.Started) (H : Type) (enc : TypeId × Value → H) :
    ReturnsInHanded {} Try.checked os 6 .any (Rows.chipSoundSpec.pre6 enc Try.prog Try.f6 Rows.chipSoundRow.domain false) (Rows.chipSoundSpec.post enc Try.prog Try.f6 false true false false) := by
  refine returnsInHanded_of_change_sized (C := Try.checked) own started (by kernel_rfl) Try.func6
    (ChangeSpec.witness6 (enc := enc) (C := Try.checked) false ⟨#[], #[.agg #[.int .i64 0, .int .i64 0, .int .i64 0, .int .i64 0, .int .i64 0, .int .i64 0, .int .i64 0, .int .i64 0, .int .i64 0, .int .i64 0, .int .i64 0, .int .i64 0, .int .i64 0, .int .i64 0, .int .i64 0, .int .i64 0, .int .i64 0, .int .i64 0, .int .i64 0, .int .i64 0, .int .i64 0, .int .i64 0, .int .i64 0, .int .i64 0, .int .i64 0, .int .i64 0, .int .i64 0, .int .i64 0, .int .i64 0, .int .i64 0]], []⟩ 8 (by kernel_rfl) (by kernel_rfl) (by kernel_rfl) (by kernel_rfl)) ?_
  intro W base args ds gs before hval0 hW hcnd hsz0 _
  have hval : ∀ (j : Nat) t v, Try.f6.params[j]? = some t → args[j]? = some v → Value.okWide Try.prog W .any base t v := hval0
  have hW' := hW
  obtain ⟨p, q, hA0, hV, rfl, hfz, hnd⟩ := hW
  have hA : DataW.TrodAll enc Try.prog W 0 (fun _ => true) true Try.f6.params.toList args.toList ds p := hA0
  rw [Try.params6] at hA hval
  obtain ⟨v0, vs0, d0, ds0, p0, q0, hargs, rfl, rfl, h0, r0⟩ := trodAll_cons hA
  obtain ⟨rfl, rfl, rfl⟩ := trodAll_nil r0
  obtain rfl : args = #[v0] := by cases args; simp_all
  obtain ⟨rfl, rfl⟩ := trodVars_none hV
  have k0 := h0
  have lt0 : ∀ x ∈ p0, x.block < W.heap.size := by obtain ⟨m, hm⟩ := k0; exact DataW.trod_lt m _ _ _ hm
  obtain ⟨⟨cs0⟩, rfl, hsz0⟩ := okWide_struct Try.underlying54 (hval 0 54 v0 rfl rfl)
  have hl0 : cs0.length = 30 := hsz0.trans (by kernel_rfl)
  obtain ⟨c0_0, tl0_0, rfl, hl0_0⟩ := cons_of hl0
  obtain ⟨c0_1, tl0_1, rfl, hl0_1⟩ := cons_of hl0_0
  obtain ⟨c0_2, tl0_2, rfl, hl0_2⟩ := cons_of hl0_1
  obtain ⟨c0_3, tl0_3, rfl, hl0_3⟩ := cons_of hl0_2
  obtain ⟨c0_4, tl0_4, rfl, hl0_4⟩ := cons_of hl0_3
  obtain ⟨c0_5, tl0_5, rfl, hl0_5⟩ := cons_of hl0_4
  obtain ⟨c0_6, tl0_6, rfl, hl0_6⟩ := cons_of hl0_5
  obtain ⟨c0_7, tl0_7, rfl, hl0_7⟩ := cons_of hl0_6
  obtain ⟨c0_8, tl0_8, rfl, hl0_8⟩ := cons_of hl0_7
  obtain ⟨c0_9, tl0_9, rfl, hl0_9⟩ := cons_of hl0_8
  obtain ⟨c0_10, tl0_10, rfl, hl0_10⟩ := cons_of hl0_9
  obtain ⟨c0_11, tl0_11, rfl, hl0_11⟩ := cons_of hl0_10
  obtain ⟨c0_12, tl0_12, rfl, hl0_12⟩ := cons_of hl0_11
  obtain ⟨c0_13, tl0_13, rfl, hl0_13⟩ := cons_of hl0_12
  obtain ⟨c0_14, tl0_14, rfl, hl0_14⟩ := cons_of hl0_13
  obtain ⟨c0_15, tl0_15, rfl, hl0_15⟩ := cons_of hl0_14
  obtain ⟨c0_16, tl0_16, rfl, hl0_16⟩ := cons_of hl0_15
  obtain ⟨c0_17, tl0_17, rfl, hl0_17⟩ := cons_of hl0_16
  obtain ⟨c0_18, tl0_18, rfl, hl0_18⟩ := cons_of hl0_17
  obtain ⟨c0_19, tl0_19, rfl, hl0_19⟩ := cons_of hl0_18
  obtain ⟨c0_20, tl0_20, rfl, hl0_20⟩ := cons_of hl0_19
  obtain ⟨c0_21, tl0_21, rfl, hl0_21⟩ := cons_of hl0_20
  obtain ⟨c0_22, tl0_22, rfl, hl0_22⟩ := cons_of hl0_21
  obtain ⟨c0_23, tl0_23, rfl, hl0_23⟩ := cons_of hl0_22
  obtain ⟨c0_24, tl0_24, rfl, hl0_24⟩ := cons_of hl0_23
  obtain ⟨c0_25, tl0_25, rfl, hl0_25⟩ := cons_of hl0_24
  obtain ⟨c0_26, tl0_26, rfl, hl0_26⟩ := cons_of hl0_25
  obtain ⟨c0_27, tl0_27, rfl, hl0_27⟩ := cons_of hl0_26
  obtain ⟨c0_28, tl0_28, rfl, hl0_28⟩ := cons_of hl0_27
  obtain ⟨c0_29, tl0_29, rfl, hl0_29⟩ := cons_of hl0_28
  obtain rfl := nil_of hl0_29
  obtain ⟨fuel0, hy0⟩ := h0
  replace hy0 : DataW.trod enc Try.prog W 0 (fun _ => true) true fuel0 54 [c0_0, c0_1, c0_2, c0_3, c0_4, c0_5, c0_6, c0_7, c0_8, c0_9, c0_10, c0_11, c0_12, c0_13, c0_14, c0_15, c0_16, c0_17, c0_18, c0_19, c0_20, c0_21, c0_22, c0_23, c0_24, c0_25, c0_26, c0_27, c0_28, c0_29] = some (d0, p0) := hy0
  have hc0_52 : Try.prog.cellsOf 52 = 26 := by kernel_rfl
  have hc0_3 : Try.prog.cellsOf 3 = 1 := by kernel_rfl
  have hc0_50 : Try.prog.cellsOf 50 = 24 := by kernel_rfl
  have hc0_49 : Try.prog.cellsOf 49 = 6 := by kernel_rfl
  obtain ⟨xs0, m0, _, hx0, _, hq0, hf0⟩ := DataW.trod_struct Try.underlying54 hy0
  obtain ⟨y0_0, g0_0⟩ : ∃ y, xs0[0]? = some y := ⟨_, List.getElem?_eq_getElem (i := 0) (by rw [hq0]; decide)⟩
  have t0_0 : DataW.trod enc Try.prog W 0 (fun _ => true) true m0 52 [c0_0, c0_1, c0_2, c0_3, c0_4, c0_5, c0_6, c0_7, c0_8, c0_9, c0_10, c0_11, c0_12, c0_13, c0_14, c0_15, c0_16, c0_17, c0_18, c0_19, c0_20, c0_21, c0_22, c0_23, c0_24, c0_25] = some y0_0 := by have h : DataW.trod enc Try.prog W 0 (fun _ => true) true m0 52 (List.take (Try.prog.cellsOf 52) (List.drop 0 [c0_0, c0_1, c0_2, c0_3, c0_4, c0_5, c0_6, c0_7, c0_8, c0_9, c0_10, c0_11, c0_12, c0_13, c0_14, c0_15, c0_16, c0_17, c0_18, c0_19, c0_20, c0_21, c0_22, c0_23, c0_24, c0_25, c0_26, c0_27, c0_28, c0_29])) = some y0_0 := (hf0 0 _ rfl).trans g0_0; rw [hc0_52] at h; exact h
  obtain ⟨xs0_0, m0_0, _, hx0_0, _, hq0_0, hf0_0⟩ := DataW.trod_struct Try.underlying52 t0_0
  obtain ⟨y0_0_0, g0_0_0⟩ : ∃ y, xs0_0[0]? = some y := ⟨_, List.getElem?_eq_getElem (i := 0) (by rw [hq0_0]; decide)⟩
  have t0_0_0 : DataW.trod enc Try.prog W 0 (fun _ => true) true m0_0 3 [c0_0] = some y0_0_0 := by have h : DataW.trod enc Try.prog W 0 (fun _ => true) true m0_0 3 (List.take (Try.prog.cellsOf 3) (List.drop 0 [c0_0, c0_1, c0_2, c0_3, c0_4, c0_5, c0_6, c0_7, c0_8, c0_9, c0_10, c0_11, c0_12, c0_13, c0_14, c0_15, c0_16, c0_17, c0_18, c0_19, c0_20, c0_21, c0_22, c0_23, c0_24, c0_25])) = some y0_0_0 := (hf0_0 0 _ rfl).trans g0_0_0; rw [hc0_3] at h; exact h
  obtain ⟨y0_0_1, g0_0_1⟩ : ∃ y, xs0_0[1]? = some y := ⟨_, List.getElem?_eq_getElem (i := 1) (by rw [hq0_0]; decide)⟩
  have t0_0_1 : DataW.trod enc Try.prog W 0 (fun _ => true) true m0_0 3 [c0_1] = some y0_0_1 := by have h : DataW.trod enc Try.prog W 0 (fun _ => true) true m0_0 3 (List.take (Try.prog.cellsOf 3) (List.drop 1 [c0_0, c0_1, c0_2, c0_3, c0_4, c0_5, c0_6, c0_7, c0_8, c0_9, c0_10, c0_11, c0_12, c0_13, c0_14, c0_15, c0_16, c0_17, c0_18, c0_19, c0_20, c0_21, c0_22, c0_23, c0_24, c0_25])) = some y0_0_1 := (hf0_0 1 _ rfl).trans g0_0_1; rw [hc0_3] at h; exact h
  obtain ⟨y0_0_2, g0_0_2⟩ : ∃ y, xs0_0[2]? = some y := ⟨_, List.getElem?_eq_getElem (i := 2) (by rw [hq0_0]; decide)⟩
  have t0_0_2 : DataW.trod enc Try.prog W 0 (fun _ => true) true m0_0 50 [c0_2, c0_3, c0_4, c0_5, c0_6, c0_7, c0_8, c0_9, c0_10, c0_11, c0_12, c0_13, c0_14, c0_15, c0_16, c0_17, c0_18, c0_19, c0_20, c0_21, c0_22, c0_23, c0_24, c0_25] = some y0_0_2 := by have h : DataW.trod enc Try.prog W 0 (fun _ => true) true m0_0 50 (List.take (Try.prog.cellsOf 50) (List.drop 2 [c0_0, c0_1, c0_2, c0_3, c0_4, c0_5, c0_6, c0_7, c0_8, c0_9, c0_10, c0_11, c0_12, c0_13, c0_14, c0_15, c0_16, c0_17, c0_18, c0_19, c0_20, c0_21, c0_22, c0_23, c0_24, c0_25])) = some y0_0_2 := (hf0_0 2 _ rfl).trans g0_0_2; rw [hc0_50] at h; exact h
  obtain ⟨xs0_0_2, m0_0_2, _, hx0_0_2, _, hq0_0_2, hf0_0_2⟩ := DataW.trod_array Try.underlying50 t0_0_2
  obtain ⟨y0_0_2_0, g0_0_2_0⟩ : ∃ y, xs0_0_2[0]? = some y := ⟨_, List.getElem?_eq_getElem (i := 0) (by rw [hq0_0_2]; decide)⟩
  have t0_0_2_0 : DataW.trod enc Try.prog W 0 (fun _ => true) true m0_0_2 49 [c0_2, c0_3, c0_4, c0_5, c0_6, c0_7] = some y0_0_2_0 := by have h := (hf0_0_2 0 (by omega)).trans g0_0_2_0; rw [hc0_49] at h; exact h
  obtain ⟨xs0_0_2_0, m0_0_2_0, _, hx0_0_2_0, _, hq0_0_2_0, hf0_0_2_0⟩ := DataW.trod_struct Try.underlying49 t0_0_2_0
  obtain ⟨y0_0_2_0_0, g0_0_2_0_0⟩ : ∃ y, xs0_0_2_0[0]? = some y := ⟨_, List.getElem?_eq_getElem (i := 0) (by rw [hq0_0_2_0]; decide)⟩
  have t0_0_2_0_0 : DataW.trod enc Try.prog W 0 (fun _ => true) true m0_0_2_0 3 [c0_2] = some y0_0_2_0_0 := by have h : DataW.trod enc Try.prog W 0 (fun _ => true) true m0_0_2_0 3 (List.take (Try.prog.cellsOf 3) (List.drop 0 [c0_2, c0_3, c0_4, c0_5, c0_6, c0_7])) = some y0_0_2_0_0 := (hf0_0_2_0 0 _ rfl).trans g0_0_2_0_0; rw [hc0_3] at h; exact h
  obtain ⟨y0_0_2_0_1, g0_0_2_0_1⟩ : ∃ y, xs0_0_2_0[1]? = some y := ⟨_, List.getElem?_eq_getElem (i := 1) (by rw [hq0_0_2_0]; decide)⟩
  have t0_0_2_0_1 : DataW.trod enc Try.prog W 0 (fun _ => true) true m0_0_2_0 3 [c0_3] = some y0_0_2_0_1 := by have h : DataW.trod enc Try.prog W 0 (fun _ => true) true m0_0_2_0 3 (List.take (Try.prog.cellsOf 3) (List.drop 1 [c0_2, c0_3, c0_4, c0_5, c0_6, c0_7])) = some y0_0_2_0_1 := (hf0_0_2_0 1 _ rfl).trans g0_0_2_0_1; rw [hc0_3] at h; exact h
  obtain ⟨y0_0_2_0_2, g0_0_2_0_2⟩ : ∃ y, xs0_0_2_0[2]? = some y := ⟨_, List.getElem?_eq_getElem (i := 2) (by rw [hq0_0_2_0]; decide)⟩
  have t0_0_2_0_2 : DataW.trod enc Try.prog W 0 (fun _ => true) true m0_0_2_0 3 [c0_4] = some y0_0_2_0_2 := by have h : DataW.trod enc Try.prog W 0 (fun _ => true) true m0_0_2_0 3 (List.take (Try.prog.cellsOf 3) (List.drop 2 [c0_2, c0_3, c0_4, c0_5, c0_6, c0_7])) = some y0_0_2_0_2 := (hf0_0_2_0 2 _ rfl).trans g0_0_2_0_2; rw [hc0_3] at h; exact h
  obtain ⟨y0_0_2_0_3, g0_0_2_0_3⟩ : ∃ y, xs0_0_2_0[3]? = some y := ⟨_, List.getElem?_eq_getElem (i := 3) (by rw [hq0_0_2_0]; decide)⟩
  have t0_0_2_0_3 : DataW.trod enc Try.prog W 0 (fun _ => true) true m0_0_2_0 3 [c0_5] = some y0_0_2_0_3 := by have h : DataW.trod enc Try.prog W 0 (fun _ => true) true m0_0_2_0 3 (List.take (Try.prog.cellsOf 3) (List.drop 3 [c0_2, c0_3, c0_4, c0_5, c0_6, c0_7])) = some y0_0_2_0_3 := (hf0_0_2_0 3 _ rfl).trans g0_0_2_0_3; rw [hc0_3] at h; exact h
  obtain ⟨y0_0_2_0_4, g0_0_2_0_4⟩ : ∃ y, xs0_0_2_0[4]? = some y := ⟨_, List.getElem?_eq_getElem (i := 4) (by rw [hq0_0_2_0]; decide)⟩
  have t0_0_2_0_4 : DataW.trod enc Try.prog W 0 (fun _ => true) true m0_0_2_0 3 [c0_6] = some y0_0_2_0_4 := by have h : DataW.trod enc Try.prog W 0 (fun _ => true) true m0_0_2_0 3 (List.take (Try.prog.cellsOf 3) (List.drop 4 [c0_2, c0_3, c0_4, c0_5, c0_6, c0_7])) = some y0_0_2_0_4 := (hf0_0_2_0 4 _ rfl).trans g0_0_2_0_4; rw [hc0_3] at h; exact h
  obtain ⟨y0_0_2_0_5, g0_0_2_0_5⟩ : ∃ y, xs0_0_2_0[5]? = some y := ⟨_, List.getElem?_eq_getElem (i := 5) (by rw [hq0_0_2_0]; decide)⟩
  have t0_0_2_0_5 : DataW.trod enc Try.prog W 0 (fun _ => true) true m0_0_2_0 3 [c0_7] = some y0_0_2_0_5 := by have h : DataW.trod enc Try.prog W 0 (fun _ => true) true m0_0_2_0 3 (List.take (Try.prog.cellsOf 3) (List.drop 5 [c0_2, c0_3, c0_4, c0_5, c0_6, c0_7])) = some y0_0_2_0_5 := (hf0_0_2_0 5 _ rfl).trans g0_0_2_0_5; rw [hc0_3] at h; exact h
  obtain ⟨y0_0_2_1, g0_0_2_1⟩ : ∃ y, xs0_0_2[1]? = some y := ⟨_, List.getElem?_eq_getElem (i := 1) (by rw [hq0_0_2]; decide)⟩
  have t0_0_2_1 : DataW.trod enc Try.prog W 0 (fun _ => true) true m0_0_2 49 [c0_8, c0_9, c0_10, c0_11, c0_12, c0_13] = some y0_0_2_1 := by have h := (hf0_0_2 1 (by omega)).trans g0_0_2_1; rw [hc0_49] at h; exact h
  obtain ⟨xs0_0_2_1, m0_0_2_1, _, hx0_0_2_1, _, hq0_0_2_1, hf0_0_2_1⟩ := DataW.trod_struct Try.underlying49 t0_0_2_1
  obtain ⟨y0_0_2_1_0, g0_0_2_1_0⟩ : ∃ y, xs0_0_2_1[0]? = some y := ⟨_, List.getElem?_eq_getElem (i := 0) (by rw [hq0_0_2_1]; decide)⟩
  have t0_0_2_1_0 : DataW.trod enc Try.prog W 0 (fun _ => true) true m0_0_2_1 3 [c0_8] = some y0_0_2_1_0 := by have h : DataW.trod enc Try.prog W 0 (fun _ => true) true m0_0_2_1 3 (List.take (Try.prog.cellsOf 3) (List.drop 0 [c0_8, c0_9, c0_10, c0_11, c0_12, c0_13])) = some y0_0_2_1_0 := (hf0_0_2_1 0 _ rfl).trans g0_0_2_1_0; rw [hc0_3] at h; exact h
  obtain ⟨y0_0_2_1_1, g0_0_2_1_1⟩ : ∃ y, xs0_0_2_1[1]? = some y := ⟨_, List.getElem?_eq_getElem (i := 1) (by rw [hq0_0_2_1]; decide)⟩
  have t0_0_2_1_1 : DataW.trod enc Try.prog W 0 (fun _ => true) true m0_0_2_1 3 [c0_9] = some y0_0_2_1_1 := by have h : DataW.trod enc Try.prog W 0 (fun _ => true) true m0_0_2_1 3 (List.take (Try.prog.cellsOf 3) (List.drop 1 [c0_8, c0_9, c0_10, c0_11, c0_12, c0_13])) = some y0_0_2_1_1 := (hf0_0_2_1 1 _ rfl).trans g0_0_2_1_1; rw [hc0_3] at h; exact h
  obtain ⟨y0_0_2_1_2, g0_0_2_1_2⟩ : ∃ y, xs0_0_2_1[2]? = some y := ⟨_, List.getElem?_eq_getElem (i := 2) (by rw [hq0_0_2_1]; decide)⟩
  have t0_0_2_1_2 : DataW.trod enc Try.prog W 0 (fun _ => true) true m0_0_2_1 3 [c0_10] = some y0_0_2_1_2 := by have h : DataW.trod enc Try.prog W 0 (fun _ => true) true m0_0_2_1 3 (List.take (Try.prog.cellsOf 3) (List.drop 2 [c0_8, c0_9, c0_10, c0_11, c0_12, c0_13])) = some y0_0_2_1_2 := (hf0_0_2_1 2 _ rfl).trans g0_0_2_1_2; rw [hc0_3] at h; exact h
  obtain ⟨y0_0_2_1_3, g0_0_2_1_3⟩ : ∃ y, xs0_0_2_1[3]? = some y := ⟨_, List.getElem?_eq_getElem (i := 3) (by rw [hq0_0_2_1]; decide)⟩
  have t0_0_2_1_3 : DataW.trod enc Try.prog W 0 (fun _ => true) true m0_0_2_1 3 [c0_11] = some y0_0_2_1_3 := by have h : DataW.trod enc Try.prog W 0 (fun _ => true) true m0_0_2_1 3 (List.take (Try.prog.cellsOf 3) (List.drop 3 [c0_8, c0_9, c0_10, c0_11, c0_12, c0_13])) = some y0_0_2_1_3 := (hf0_0_2_1 3 _ rfl).trans g0_0_2_1_3; rw [hc0_3] at h; exact h
  obtain ⟨y0_0_2_1_4, g0_0_2_1_4⟩ : ∃ y, xs0_0_2_1[4]? = some y := ⟨_, List.getElem?_eq_getElem (i := 4) (by rw [hq0_0_2_1]; decide)⟩
  have t0_0_2_1_4 : DataW.trod enc Try.prog W 0 (fun _ => true) true m0_0_2_1 3 [c0_12] = some y0_0_2_1_4 := by have h : DataW.trod enc Try.prog W 0 (fun _ => true) true m0_0_2_1 3 (List.take (Try.prog.cellsOf 3) (List.drop 4 [c0_8, c0_9, c0_10, c0_11, c0_12, c0_13])) = some y0_0_2_1_4 := (hf0_0_2_1 4 _ rfl).trans g0_0_2_1_4; rw [hc0_3] at h; exact h
  obtain ⟨y0_0_2_1_5, g0_0_2_1_5⟩ : ∃ y, xs0_0_2_1[5]? = some y := ⟨_, List.getElem?_eq_getElem (i := 5) (by rw [hq0_0_2_1]; decide)⟩
  have t0_0_2_1_5 : DataW.trod enc Try.prog W 0 (fun _ => true) true m0_0_2_1 3 [c0_13] = some y0_0_2_1_5 := by have h : DataW.trod enc Try.prog W 0 (fun _ => true) true m0_0_2_1 3 (List.take (Try.prog.cellsOf 3) (List.drop 5 [c0_8, c0_9, c0_10, c0_11, c0_12, c0_13])) = some y0_0_2_1_5 := (hf0_0_2_1 5 _ rfl).trans g0_0_2_1_5; rw [hc0_3] at h; exact h
  obtain ⟨y0_0_2_2, g0_0_2_2⟩ : ∃ y, xs0_0_2[2]? = some y := ⟨_, List.getElem?_eq_getElem (i := 2) (by rw [hq0_0_2]; decide)⟩
  have t0_0_2_2 : DataW.trod enc Try.prog W 0 (fun _ => true) true m0_0_2 49 [c0_14, c0_15, c0_16, c0_17, c0_18, c0_19] = some y0_0_2_2 := by have h := (hf0_0_2 2 (by omega)).trans g0_0_2_2; rw [hc0_49] at h; exact h
  obtain ⟨xs0_0_2_2, m0_0_2_2, _, hx0_0_2_2, _, hq0_0_2_2, hf0_0_2_2⟩ := DataW.trod_struct Try.underlying49 t0_0_2_2
  obtain ⟨y0_0_2_2_0, g0_0_2_2_0⟩ : ∃ y, xs0_0_2_2[0]? = some y := ⟨_, List.getElem?_eq_getElem (i := 0) (by rw [hq0_0_2_2]; decide)⟩
  have t0_0_2_2_0 : DataW.trod enc Try.prog W 0 (fun _ => true) true m0_0_2_2 3 [c0_14] = some y0_0_2_2_0 := by have h : DataW.trod enc Try.prog W 0 (fun _ => true) true m0_0_2_2 3 (List.take (Try.prog.cellsOf 3) (List.drop 0 [c0_14, c0_15, c0_16, c0_17, c0_18, c0_19])) = some y0_0_2_2_0 := (hf0_0_2_2 0 _ rfl).trans g0_0_2_2_0; rw [hc0_3] at h; exact h
  obtain ⟨y0_0_2_2_1, g0_0_2_2_1⟩ : ∃ y, xs0_0_2_2[1]? = some y := ⟨_, List.getElem?_eq_getElem (i := 1) (by rw [hq0_0_2_2]; decide)⟩
  have t0_0_2_2_1 : DataW.trod enc Try.prog W 0 (fun _ => true) true m0_0_2_2 3 [c0_15] = some y0_0_2_2_1 := by have h : DataW.trod enc Try.prog W 0 (fun _ => true) true m0_0_2_2 3 (List.take (Try.prog.cellsOf 3) (List.drop 1 [c0_14, c0_15, c0_16, c0_17, c0_18, c0_19])) = some y0_0_2_2_1 := (hf0_0_2_2 1 _ rfl).trans g0_0_2_2_1; rw [hc0_3] at h; exact h
  obtain ⟨y0_0_2_2_2, g0_0_2_2_2⟩ : ∃ y, xs0_0_2_2[2]? = some y := ⟨_, List.getElem?_eq_getElem (i := 2) (by rw [hq0_0_2_2]; decide)⟩
  have t0_0_2_2_2 : DataW.trod enc Try.prog W 0 (fun _ => true) true m0_0_2_2 3 [c0_16] = some y0_0_2_2_2 := by have h : DataW.trod enc Try.prog W 0 (fun _ => true) true m0_0_2_2 3 (List.take (Try.prog.cellsOf 3) (List.drop 2 [c0_14, c0_15, c0_16, c0_17, c0_18, c0_19])) = some y0_0_2_2_2 := (hf0_0_2_2 2 _ rfl).trans g0_0_2_2_2; rw [hc0_3] at h; exact h
  obtain ⟨y0_0_2_2_3, g0_0_2_2_3⟩ : ∃ y, xs0_0_2_2[3]? = some y := ⟨_, List.getElem?_eq_getElem (i := 3) (by rw [hq0_0_2_2]; decide)⟩
  have t0_0_2_2_3 : DataW.trod enc Try.prog W 0 (fun _ => true) true m0_0_2_2 3 [c0_17] = some y0_0_2_2_3 := by have h : DataW.trod enc Try.prog W 0 (fun _ => true) true m0_0_2_2 3 (List.take (Try.prog.cellsOf 3) (List.drop 3 [c0_14, c0_15, c0_16, c0_17, c0_18, c0_19])) = some y0_0_2_2_3 := (hf0_0_2_2 3 _ rfl).trans g0_0_2_2_3; rw [hc0_3] at h; exact h
  obtain ⟨y0_0_2_2_4, g0_0_2_2_4⟩ : ∃ y, xs0_0_2_2[4]? = some y := ⟨_, List.getElem?_eq_getElem (i := 4) (by rw [hq0_0_2_2]; decide)⟩
  have t0_0_2_2_4 : DataW.trod enc Try.prog W 0 (fun _ => true) true m0_0_2_2 3 [c0_18] = some y0_0_2_2_4 := by have h : DataW.trod enc Try.prog W 0 (fun _ => true) true m0_0_2_2 3 (List.take (Try.prog.cellsOf 3) (List.drop 4 [c0_14, c0_15, c0_16, c0_17, c0_18, c0_19])) = some y0_0_2_2_4 := (hf0_0_2_2 4 _ rfl).trans g0_0_2_2_4; rw [hc0_3] at h; exact h
  obtain ⟨y0_0_2_2_5, g0_0_2_2_5⟩ : ∃ y, xs0_0_2_2[5]? = some y := ⟨_, List.getElem?_eq_getElem (i := 5) (by rw [hq0_0_2_2]; decide)⟩
  have t0_0_2_2_5 : DataW.trod enc Try.prog W 0 (fun _ => true) true m0_0_2_2 3 [c0_19] = some y0_0_2_2_5 := by have h : DataW.trod enc Try.prog W 0 (fun _ => true) true m0_0_2_2 3 (List.take (Try.prog.cellsOf 3) (List.drop 5 [c0_14, c0_15, c0_16, c0_17, c0_18, c0_19])) = some y0_0_2_2_5 := (hf0_0_2_2 5 _ rfl).trans g0_0_2_2_5; rw [hc0_3] at h; exact h
  obtain ⟨y0_0_2_3, g0_0_2_3⟩ : ∃ y, xs0_0_2[3]? = some y := ⟨_, List.getElem?_eq_getElem (i := 3) (by rw [hq0_0_2]; decide)⟩
  have t0_0_2_3 : DataW.trod enc Try.prog W 0 (fun _ => true) true m0_0_2 49 [c0_20, c0_21, c0_22, c0_23, c0_24, c0_25] = some y0_0_2_3 := by have h := (hf0_0_2 3 (by omega)).trans g0_0_2_3; rw [hc0_49] at h; exact h
  obtain ⟨xs0_0_2_3, m0_0_2_3, _, hx0_0_2_3, _, hq0_0_2_3, hf0_0_2_3⟩ := DataW.trod_struct Try.underlying49 t0_0_2_3
  obtain ⟨y0_0_2_3_0, g0_0_2_3_0⟩ : ∃ y, xs0_0_2_3[0]? = some y := ⟨_, List.getElem?_eq_getElem (i := 0) (by rw [hq0_0_2_3]; decide)⟩
  have t0_0_2_3_0 : DataW.trod enc Try.prog W 0 (fun _ => true) true m0_0_2_3 3 [c0_20] = some y0_0_2_3_0 := by have h : DataW.trod enc Try.prog W 0 (fun _ => true) true m0_0_2_3 3 (List.take (Try.prog.cellsOf 3) (List.drop 0 [c0_20, c0_21, c0_22, c0_23, c0_24, c0_25])) = some y0_0_2_3_0 := (hf0_0_2_3 0 _ rfl).trans g0_0_2_3_0; rw [hc0_3] at h; exact h
  obtain ⟨y0_0_2_3_1, g0_0_2_3_1⟩ : ∃ y, xs0_0_2_3[1]? = some y := ⟨_, List.getElem?_eq_getElem (i := 1) (by rw [hq0_0_2_3]; decide)⟩
  have t0_0_2_3_1 : DataW.trod enc Try.prog W 0 (fun _ => true) true m0_0_2_3 3 [c0_21] = some y0_0_2_3_1 := by have h : DataW.trod enc Try.prog W 0 (fun _ => true) true m0_0_2_3 3 (List.take (Try.prog.cellsOf 3) (List.drop 1 [c0_20, c0_21, c0_22, c0_23, c0_24, c0_25])) = some y0_0_2_3_1 := (hf0_0_2_3 1 _ rfl).trans g0_0_2_3_1; rw [hc0_3] at h; exact h
  obtain ⟨y0_0_2_3_2, g0_0_2_3_2⟩ : ∃ y, xs0_0_2_3[2]? = some y := ⟨_, List.getElem?_eq_getElem (i := 2) (by rw [hq0_0_2_3]; decide)⟩
  have t0_0_2_3_2 : DataW.trod enc Try.prog W 0 (fun _ => true) true m0_0_2_3 3 [c0_22] = some y0_0_2_3_2 := by have h : DataW.trod enc Try.prog W 0 (fun _ => true) true m0_0_2_3 3 (List.take (Try.prog.cellsOf 3) (List.drop 2 [c0_20, c0_21, c0_22, c0_23, c0_24, c0_25])) = some y0_0_2_3_2 := (hf0_0_2_3 2 _ rfl).trans g0_0_2_3_2; rw [hc0_3] at h; exact h
  obtain ⟨y0_0_2_3_3, g0_0_2_3_3⟩ : ∃ y, xs0_0_2_3[3]? = some y := ⟨_, List.getElem?_eq_getElem (i := 3) (by rw [hq0_0_2_3]; decide)⟩
  have t0_0_2_3_3 : DataW.trod enc Try.prog W 0 (fun _ => true) true m0_0_2_3 3 [c0_23] = some y0_0_2_3_3 := by have h : DataW.trod enc Try.prog W 0 (fun _ => true) true m0_0_2_3 3 (List.take (Try.prog.cellsOf 3) (List.drop 3 [c0_20, c0_21, c0_22, c0_23, c0_24, c0_25])) = some y0_0_2_3_3 := (hf0_0_2_3 3 _ rfl).trans g0_0_2_3_3; rw [hc0_3] at h; exact h
  obtain ⟨y0_0_2_3_4, g0_0_2_3_4⟩ : ∃ y, xs0_0_2_3[4]? = some y := ⟨_, List.getElem?_eq_getElem (i := 4) (by rw [hq0_0_2_3]; decide)⟩
  have t0_0_2_3_4 : DataW.trod enc Try.prog W 0 (fun _ => true) true m0_0_2_3 3 [c0_24] = some y0_0_2_3_4 := by have h : DataW.trod enc Try.prog W 0 (fun _ => true) true m0_0_2_3 3 (List.take (Try.prog.cellsOf 3) (List.drop 4 [c0_20, c0_21, c0_22, c0_23, c0_24, c0_25])) = some y0_0_2_3_4 := (hf0_0_2_3 4 _ rfl).trans g0_0_2_3_4; rw [hc0_3] at h; exact h
  obtain ⟨y0_0_2_3_5, g0_0_2_3_5⟩ : ∃ y, xs0_0_2_3[5]? = some y := ⟨_, List.getElem?_eq_getElem (i := 5) (by rw [hq0_0_2_3]; decide)⟩
  have t0_0_2_3_5 : DataW.trod enc Try.prog W 0 (fun _ => true) true m0_0_2_3 3 [c0_25] = some y0_0_2_3_5 := by have h : DataW.trod enc Try.prog W 0 (fun _ => true) true m0_0_2_3 3 (List.take (Try.prog.cellsOf 3) (List.drop 5 [c0_20, c0_21, c0_22, c0_23, c0_24, c0_25])) = some y0_0_2_3_5 := (hf0_0_2_3 5 _ rfl).trans g0_0_2_3_5; rw [hc0_3] at h; exact h
  obtain ⟨y0_1, g0_1⟩ : ∃ y, xs0[1]? = some y := ⟨_, List.getElem?_eq_getElem (i := 1) (by rw [hq0]; decide)⟩
  have t0_1 : DataW.trod enc Try.prog W 0 (fun _ => true) true m0 3 [c0_26] = some y0_1 := by have h : DataW.trod enc Try.prog W 0 (fun _ => true) true m0 3 (List.take (Try.prog.cellsOf 3) (List.drop 26 [c0_0, c0_1, c0_2, c0_3, c0_4, c0_5, c0_6, c0_7, c0_8, c0_9, c0_10, c0_11, c0_12, c0_13, c0_14, c0_15, c0_16, c0_17, c0_18, c0_19, c0_20, c0_21, c0_22, c0_23, c0_24, c0_25, c0_26, c0_27, c0_28, c0_29])) = some y0_1 := (hf0 1 _ rfl).trans g0_1; rw [hc0_3] at h; exact h
  obtain ⟨y0_2, g0_2⟩ : ∃ y, xs0[2]? = some y := ⟨_, List.getElem?_eq_getElem (i := 2) (by rw [hq0]; decide)⟩
  have t0_2 : DataW.trod enc Try.prog W 0 (fun _ => true) true m0 3 [c0_27] = some y0_2 := by have h : DataW.trod enc Try.prog W 0 (fun _ => true) true m0 3 (List.take (Try.prog.cellsOf 3) (List.drop 27 [c0_0, c0_1, c0_2, c0_3, c0_4, c0_5, c0_6, c0_7, c0_8, c0_9, c0_10, c0_11, c0_12, c0_13, c0_14, c0_15, c0_16, c0_17, c0_18, c0_19, c0_20, c0_21, c0_22, c0_23, c0_24, c0_25, c0_26, c0_27, c0_28, c0_29])) = some y0_2 := (hf0 2 _ rfl).trans g0_2; rw [hc0_3] at h; exact h
  obtain ⟨y0_3, g0_3⟩ : ∃ y, xs0[3]? = some y := ⟨_, List.getElem?_eq_getElem (i := 3) (by rw [hq0]; decide)⟩
  have t0_3 : DataW.trod enc Try.prog W 0 (fun _ => true) true m0 3 [c0_28] = some y0_3 := by have h : DataW.trod enc Try.prog W 0 (fun _ => true) true m0 3 (List.take (Try.prog.cellsOf 3) (List.drop 28 [c0_0, c0_1, c0_2, c0_3, c0_4, c0_5, c0_6, c0_7, c0_8, c0_9, c0_10, c0_11, c0_12, c0_13, c0_14, c0_15, c0_16, c0_17, c0_18, c0_19, c0_20, c0_21, c0_22, c0_23, c0_24, c0_25, c0_26, c0_27, c0_28, c0_29])) = some y0_3 := (hf0 3 _ rfl).trans g0_3; rw [hc0_3] at h; exact h
  obtain ⟨y0_4, g0_4⟩ : ∃ y, xs0[4]? = some y := ⟨_, List.getElem?_eq_getElem (i := 4) (by rw [hq0]; decide)⟩
  have t0_4 : DataW.trod enc Try.prog W 0 (fun _ => true) true m0 3 [c0_29] = some y0_4 := by have h : DataW.trod enc Try.prog W 0 (fun _ => true) true m0 3 (List.take (Try.prog.cellsOf 3) (List.drop 29 [c0_0, c0_1, c0_2, c0_3, c0_4, c0_5, c0_6, c0_7, c0_8, c0_9, c0_10, c0_11, c0_12, c0_13, c0_14, c0_15, c0_16, c0_17, c0_18, c0_19, c0_20, c0_21, c0_22, c0_23, c0_24, c0_25, c0_26, c0_27, c0_28, c0_29])) = some y0_4 := (hf0 4 _ rfl).trans g0_4; rw [hc0_3] at h; exact h
  obtain ⟨a0_0, e0_0, _, w0_0⟩ := DataW.trod_int Try.underlying3 t0_0_0
  obtain rfl := (List.cons.inj e0_0).1
  obtain ⟨a0_1, e0_1, _, w0_1⟩ := DataW.trod_int Try.underlying3 t0_0_1
  obtain rfl := (List.cons.inj e0_1).1
  obtain ⟨a0_2, e0_2, _, w0_2⟩ := DataW.trod_int Try.underlying3 t0_0_2_0_0
  obtain rfl := (List.cons.inj e0_2).1
  obtain ⟨a0_3, e0_3, _, w0_3⟩ := DataW.trod_int Try.underlying3 t0_0_2_0_1
  obtain rfl := (List.cons.inj e0_3).1
  obtain ⟨a0_4, e0_4, _, w0_4⟩ := DataW.trod_int Try.underlying3 t0_0_2_0_2
  obtain rfl := (List.cons.inj e0_4).1
  obtain ⟨a0_5, e0_5, _, w0_5⟩ := DataW.trod_int Try.underlying3 t0_0_2_0_3
  obtain rfl := (List.cons.inj e0_5).1
  obtain ⟨a0_6, e0_6, _, w0_6⟩ := DataW.trod_int Try.underlying3 t0_0_2_0_4
  obtain rfl := (List.cons.inj e0_6).1
  obtain ⟨a0_7, e0_7, _, w0_7⟩ := DataW.trod_int Try.underlying3 t0_0_2_0_5
  obtain rfl := (List.cons.inj e0_7).1
  obtain ⟨a0_8, e0_8, _, w0_8⟩ := DataW.trod_int Try.underlying3 t0_0_2_1_0
  obtain rfl := (List.cons.inj e0_8).1
  obtain ⟨a0_9, e0_9, _, w0_9⟩ := DataW.trod_int Try.underlying3 t0_0_2_1_1
  obtain rfl := (List.cons.inj e0_9).1
  obtain ⟨a0_10, e0_10, _, w0_10⟩ := DataW.trod_int Try.underlying3 t0_0_2_1_2
  obtain rfl := (List.cons.inj e0_10).1
  obtain ⟨a0_11, e0_11, _, w0_11⟩ := DataW.trod_int Try.underlying3 t0_0_2_1_3
  obtain rfl := (List.cons.inj e0_11).1
  obtain ⟨a0_12, e0_12, _, w0_12⟩ := DataW.trod_int Try.underlying3 t0_0_2_1_4
  obtain rfl := (List.cons.inj e0_12).1
  obtain ⟨a0_13, e0_13, _, w0_13⟩ := DataW.trod_int Try.underlying3 t0_0_2_1_5
  obtain rfl := (List.cons.inj e0_13).1
  obtain ⟨a0_14, e0_14, _, w0_14⟩ := DataW.trod_int Try.underlying3 t0_0_2_2_0
  obtain rfl := (List.cons.inj e0_14).1
  obtain ⟨a0_15, e0_15, _, w0_15⟩ := DataW.trod_int Try.underlying3 t0_0_2_2_1
  obtain rfl := (List.cons.inj e0_15).1
  obtain ⟨a0_16, e0_16, _, w0_16⟩ := DataW.trod_int Try.underlying3 t0_0_2_2_2
  obtain rfl := (List.cons.inj e0_16).1
  obtain ⟨a0_17, e0_17, _, w0_17⟩ := DataW.trod_int Try.underlying3 t0_0_2_2_3
  obtain rfl := (List.cons.inj e0_17).1
  obtain ⟨a0_18, e0_18, _, w0_18⟩ := DataW.trod_int Try.underlying3 t0_0_2_2_4
  obtain rfl := (List.cons.inj e0_18).1
  obtain ⟨a0_19, e0_19, _, w0_19⟩ := DataW.trod_int Try.underlying3 t0_0_2_2_5
  obtain rfl := (List.cons.inj e0_19).1
  obtain ⟨a0_20, e0_20, _, w0_20⟩ := DataW.trod_int Try.underlying3 t0_0_2_3_0
  obtain rfl := (List.cons.inj e0_20).1
  obtain ⟨a0_21, e0_21, _, w0_21⟩ := DataW.trod_int Try.underlying3 t0_0_2_3_1
  obtain rfl := (List.cons.inj e0_21).1
  obtain ⟨a0_22, e0_22, _, w0_22⟩ := DataW.trod_int Try.underlying3 t0_0_2_3_2
  obtain rfl := (List.cons.inj e0_22).1
  obtain ⟨a0_23, e0_23, _, w0_23⟩ := DataW.trod_int Try.underlying3 t0_0_2_3_3
  obtain rfl := (List.cons.inj e0_23).1
  obtain ⟨a0_24, e0_24, _, w0_24⟩ := DataW.trod_int Try.underlying3 t0_0_2_3_4
  obtain rfl := (List.cons.inj e0_24).1
  obtain ⟨a0_25, e0_25, _, w0_25⟩ := DataW.trod_int Try.underlying3 t0_0_2_3_5
  obtain rfl := (List.cons.inj e0_25).1
  obtain ⟨a0_26, e0_26, _, w0_26⟩ := DataW.trod_int Try.underlying3 t0_1
  obtain rfl := (List.cons.inj e0_26).1
  obtain ⟨a0_27, e0_27, _, w0_27⟩ := DataW.trod_int Try.underlying3 t0_2
  obtain rfl := (List.cons.inj e0_27).1
  obtain ⟨a0_28, e0_28, _, w0_28⟩ := DataW.trod_int Try.underlying3 t0_3
  obtain rfl := (List.cons.inj e0_28).1
  obtain ⟨a0_29, e0_29, _, w0_29⟩ := DataW.trod_int Try.underlying3 t0_4
  obtain rfl := (List.cons.inj e0_29).1
  clear hA0 hval0 hsz0
  refine (sound_lit a0_0 a0_1 a0_2 a0_3 a0_4 a0_5 a0_6 a0_7 a0_8 a0_9 a0_10 a0_11 a0_12 a0_13 a0_14 a0_15 a0_16 a0_17 a0_18 a0_19 a0_20 a0_21 a0_22 a0_23 a0_24 a0_25 a0_26 a0_27 a0_28 a0_29 W).mono fun e W' ⟨he, bel0⟩ => ?_
  have bel : Below W.heap.size W W' := bel0
  subst he
  exact ⟨_, rfl, _, _, _, [], _, [], hW', trodAll_mk1 (shut_bool Try.underlying4 _), (trodAll_cons_mk (Below.trod laidOut (by kernel_rfl) (of_decide_eq_true (by kernel_rfl)) k0 bel lt0) trodAll_mk0), rfl, bel.frame _, fun h => by cases h⟩
theorem over : Rows.chipSoundRow.holds Try.pinned (OpenSpec.ofChange Rows.chipSoundSpec) :=
  OpenClaim.holds_of_wide 6 Try.f6 rfl rfl rfl rfl rfl rfl rfl ⟨rfl, rfl, rfl, rfl, rfl⟩ rfl rfl rfl rfl rfl (by kernel_rfl) Try.func6 (by kernel_rfl)
    (of_decide_eq_true (by kernel_rfl)) (by unfold Func.isWrapper; first | (rw [if_pos (by decide +kernel)]; kernel_rfl) | (rw [if_neg (by decide +kernel)]; exact ⟨rfl, rfl⟩))
    (fun os started H enc _ => lifted os started H enc)
theorem proved : Rows.ChipSoundSaid := over
#print axioms proved
end Go.Proofs.Ytfodpoccjdaaaaa.chipSound

/- TuneLouder: where sounds begin by a greater ratio, they begin by a smaller one, too; no condition. -/
import Derived.Test.YtfodpoccjdaaaaaRows
import Derived.Test.YtfodpoccjdaaaaaReF
import Derived.WalkKit
import Derived.ProofKit
import Derived.OpenShut
import Derived.ShutString
import Derived.ChangeOld
import Derived.Below
import Derived.SizedLaws
import Derived.Deep.Fields
import Derived.ChangeSame
import Derived.Deep.Slices
import Derived.Deep.Matrix
namespace Go.Proofs.Ytfodpoccjdaaaaa.tuneLouder
open Go.ChangeShapes Go.WideShapes Go.ChangeAt Go.RowKit Go.Deep
open Go.ChangeMaps (open_string shut_string)
open Go.Proofs.Ytfodpoccjdaaaaa.SX
set_option linter.unusedVariables false
theorem own : ownKnob Try.prog.godebug = none := by kernel_rfl
theorem laidOut : laidOutB Try.prog = true := by kernel_rfl
theorem okWide_array {P : Program} {w : World} {r : Reach} {b0 : Nat} {t e : TypeId} {n : Nat} {v : Value} (ht : P.underlying t = some (.array n e)) (h : Value.okWide P w r b0 t v) : ∃ cs, v = .agg cs ∧ cs.size = P.cellsOf t := by
  simp only [Value.okWide, ht] at h
  obtain ⟨cs, h1, h2, _⟩ := h
  exact ⟨cs, h1, h2⟩
def IsRow (k : IntKind) (w : World) (a : Option Addr) (len cap : Nat) (zs : List Int) : Prop :=
  (a = none ∧ len = 0 ∧ cap = 0 ∧ zs = []) ∨
  ∃ x, a = some x ∧ len ≤ cap ∧ cap ≤ maxLen ∧ zs.length = cap ∧ (∀ i, i < zs.length → w.cell? (x.add i) = some (.int k (zs.getD i 0))) ∧ ∀ n ∈ zs, (Lit.int k n).wf = true
theorem cons_of {α : Type} {n : Nat} : ∀ {l : List α}, l.length = n + 1 → ∃ c t, l = c :: t ∧ t.length = n
  | c :: t, h => ⟨c, t, rfl, by simpa using h⟩
theorem nil_of {α : Type} : ∀ {l : List α}, l.length = 0 → l = []
  | [], _ => rfl
set_option maxHeartbeats 8000000 in
set_option maxRecDepth 100000 in
theorem lifted (os : Os) (started : os.Started) (H : Type) (enc : TypeId × Value → H) :
    ReturnsInHanded {} Try.checked os 5 .any (Rows.tuneLouderSpec.pre6 enc Try.prog Try.f5 Rows.tuneLouderRow.domain false) (Rows.tuneLouderSpec.post enc Try.prog Try.f5 false true false false) := by
  refine returnsInHanded_of_change_sized (C := Try.checked) own started (by kernel_rfl) Try.func5
    (ChangeSpec.witness6 (enc := enc) (C := Try.checked) false ⟨#[], #[.agg #[.string ByteArray.empty, .slice none 0 0, .int .i64 0, .int .i64 0, .int .i64 0, .int .i64 0, .int .i64 0, .int .i64 0, .int .i64 0, .int .i64 0, .int .i64 0, .int .i64 0, .int .i64 0], .int .i64 0, .agg #[.int .i64 0, .int .i64 0]], []⟩ 8 (by kernel_rfl) (by kernel_rfl) (by kernel_rfl) (by kernel_rfl)) ?_
  intro W base args ds gs before hval0 hW hcnd hsz0 _
  have hval : ∀ (j : Nat) t v, Try.f5.params[j]? = some t → args[j]? = some v → Value.okWide Try.prog W .any base t v := hval0
  have hW' := hW
  obtain ⟨p, q, hA0, hV, rfl, hfz, hnd⟩ := hW
  have hA : DataW.TrodAll enc Try.prog W 0 (fun _ => true) true Try.f5.params.toList args.toList ds p := hA0
  rw [Try.params5] at hA hval
  obtain ⟨v0, vs0, d0, ds0, p0, q0, hargs, rfl, rfl, h0, r0⟩ := trodAll_cons hA
  obtain ⟨v1, vs1, d1, ds1, p1, q1, rfl, rfl, rfl, h1, r1⟩ := trodAll_cons r0
  obtain ⟨v2, vs2, d2, ds2, p2, q2, rfl, rfl, rfl, h2, r2⟩ := trodAll_cons r1
  obtain ⟨rfl, rfl, rfl⟩ := trodAll_nil r2
  obtain rfl : args = #[v0, v1, v2] := by cases args; simp_all
  obtain ⟨rfl, rfl⟩ := trodVars_none hV
  have k0 := h0
  have lt0 : ∀ x ∈ p0, x.block < W.heap.size := by obtain ⟨m, hm⟩ := k0; exact DataW.trod_lt m _ _ _ hm
  obtain ⟨⟨cs0⟩, rfl, hsz0⟩ := okWide_struct Try.underlying31 (hval 0 31 v0 rfl rfl)
  have hl0 : cs0.length = 13 := hsz0.trans (by kernel_rfl)
  obtain ⟨c0_0, tl0_0, rfl, hl0_0⟩ := cons_of hl0
  obtain ⟨c0_1, tl0_1, rfl, hl0_1⟩ := cons_of hl0_0
  obtain ⟨c0_2, tl0_2, rfl, hl0_2⟩ := cons_of hl0_1
  obtain ⟨c0_3, tl0_3, rfl, hl0_3⟩ := cons_of hl0_2
  obtain ⟨c0_4, tl0_4, rfl, hl0_4⟩ := cons_of hl0_3
  obtain ⟨c0_5, tl0_5, rfl, hl0_5⟩ := cons_of hl0_4
  obtain ⟨c0_6, tl0_6, rfl, hl0_6⟩ := cons_of hl0_5
  obtain ⟨c0_7, tl0_7, rfl, hl0_7⟩ := cons_of hl0_6
  obtain ⟨c0_8, tl0_8, rfl, hl0_8⟩ := cons_of hl0_7
  obtain ⟨c0_9, tl0_9, rfl, hl0_9⟩ := cons_of hl0_8
  obtain ⟨c0_10, tl0_10, rfl, hl0_10⟩ := cons_of hl0_9
  obtain ⟨c0_11, tl0_11, rfl, hl0_11⟩ := cons_of hl0_10
  obtain ⟨c0_12, tl0_12, rfl, hl0_12⟩ := cons_of hl0_11
  obtain rfl := nil_of hl0_12
  obtain ⟨fuel0, hy0⟩ := h0
  replace hy0 : DataW.trod enc Try.prog W 0 (fun _ => true) true fuel0 31 [c0_0, c0_1, c0_2, c0_3, c0_4, c0_5, c0_6, c0_7, c0_8, c0_9, c0_10, c0_11, c0_12] = some (d0, p0) := hy0
  have hc0_9 : Try.prog.cellsOf 9 = 1 := by kernel_rfl
  have hc0_29 : Try.prog.cellsOf 29 = 1 := by kernel_rfl
  have hc0_3 : Try.prog.cellsOf 3 = 1 := by kernel_rfl
  obtain ⟨xs0, m0, _, hx0, _, hq0, hf0⟩ := DataW.trod_struct Try.underlying31 hy0
  obtain ⟨y0_0, g0_0⟩ : ∃ y, xs0[0]? = some y := ⟨_, List.getElem?_eq_getElem (i := 0) (by rw [hq0]; decide)⟩
  have t0_0 : DataW.trod enc Try.prog W 0 (fun _ => true) true m0 9 [c0_0] = some y0_0 := by have h : DataW.trod enc Try.prog W 0 (fun _ => true) true m0 9 (List.take (Try.prog.cellsOf 9) (List.drop 0 [c0_0, c0_1, c0_2, c0_3, c0_4, c0_5, c0_6, c0_7, c0_8, c0_9, c0_10, c0_11, c0_12])) = some y0_0 := (hf0 0 _ rfl).trans g0_0; rw [hc0_9] at h; exact h
  obtain ⟨y0_1, g0_1⟩ : ∃ y, xs0[1]? = some y := ⟨_, List.getElem?_eq_getElem (i := 1) (by rw [hq0]; decide)⟩
  have t0_1 : DataW.trod enc Try.prog W 0 (fun _ => true) true m0 29 [c0_1] = some y0_1 := by have h : DataW.trod enc Try.prog W 0 (fun _ => true) true m0 29 (List.take (Try.prog.cellsOf 29) (List.drop 1 [c0_0, c0_1, c0_2, c0_3, c0_4, c0_5, c0_6, c0_7, c0_8, c0_9, c0_10, c0_11, c0_12])) = some y0_1 := (hf0 1 _ rfl).trans g0_1; rw [hc0_29] at h; exact h
  obtain ⟨y0_2, g0_2⟩ : ∃ y, xs0[2]? = some y := ⟨_, List.getElem?_eq_getElem (i := 2) (by rw [hq0]; decide)⟩
  have t0_2 : DataW.trod enc Try.prog W 0 (fun _ => true) true m0 3 [c0_2] = some y0_2 := by have h : DataW.trod enc Try.prog W 0 (fun _ => true) true m0 3 (List.take (Try.prog.cellsOf 3) (List.drop 2 [c0_0, c0_1, c0_2, c0_3, c0_4, c0_5, c0_6, c0_7, c0_8, c0_9, c0_10, c0_11, c0_12])) = some y0_2 := (hf0 2 _ rfl).trans g0_2; rw [hc0_3] at h; exact h
  obtain ⟨y0_3, g0_3⟩ : ∃ y, xs0[3]? = some y := ⟨_, List.getElem?_eq_getElem (i := 3) (by rw [hq0]; decide)⟩
  have t0_3 : DataW.trod enc Try.prog W 0 (fun _ => true) true m0 3 [c0_3] = some y0_3 := by have h : DataW.trod enc Try.prog W 0 (fun _ => true) true m0 3 (List.take (Try.prog.cellsOf 3) (List.drop 3 [c0_0, c0_1, c0_2, c0_3, c0_4, c0_5, c0_6, c0_7, c0_8, c0_9, c0_10, c0_11, c0_12])) = some y0_3 := (hf0 3 _ rfl).trans g0_3; rw [hc0_3] at h; exact h
  obtain ⟨y0_4, g0_4⟩ : ∃ y, xs0[4]? = some y := ⟨_, List.getElem?_eq_getElem (i := 4) (by rw [hq0]; decide)⟩
  have t0_4 : DataW.trod enc Try.prog W 0 (fun _ => true) true m0 3 [c0_4] = some y0_4 := by have h : DataW.trod enc Try.prog W 0 (fun _ => true) true m0 3 (List.take (Try.prog.cellsOf 3) (List.drop 4 [c0_0, c0_1, c0_2, c0_3, c0_4, c0_5, c0_6, c0_7, c0_8, c0_9, c0_10, c0_11, c0_12])) = some y0_4 := (hf0 4 _ rfl).trans g0_4; rw [hc0_3] at h; exact h
  obtain ⟨y0_5, g0_5⟩ : ∃ y, xs0[5]? = some y := ⟨_, List.getElem?_eq_getElem (i := 5) (by rw [hq0]; decide)⟩
  have t0_5 : DataW.trod enc Try.prog W 0 (fun _ => true) true m0 3 [c0_5] = some y0_5 := by have h : DataW.trod enc Try.prog W 0 (fun _ => true) true m0 3 (List.take (Try.prog.cellsOf 3) (List.drop 5 [c0_0, c0_1, c0_2, c0_3, c0_4, c0_5, c0_6, c0_7, c0_8, c0_9, c0_10, c0_11, c0_12])) = some y0_5 := (hf0 5 _ rfl).trans g0_5; rw [hc0_3] at h; exact h
  obtain ⟨y0_6, g0_6⟩ : ∃ y, xs0[6]? = some y := ⟨_, List.getElem?_eq_getElem (i := 6) (by rw [hq0]; decide)⟩
  have t0_6 : DataW.trod enc Try.prog W 0 (fun _ => true) true m0 3 [c0_6] = some y0_6 := by have h : DataW.trod enc Try.prog W 0 (fun _ => true) true m0 3 (List.take (Try.prog.cellsOf 3) (List.drop 6 [c0_0, c0_1, c0_2, c0_3, c0_4, c0_5, c0_6, c0_7, c0_8, c0_9, c0_10, c0_11, c0_12])) = some y0_6 := (hf0 6 _ rfl).trans g0_6; rw [hc0_3] at h; exact h
  obtain ⟨y0_7, g0_7⟩ : ∃ y, xs0[7]? = some y := ⟨_, List.getElem?_eq_getElem (i := 7) (by rw [hq0]; decide)⟩
  have t0_7 : DataW.trod enc Try.prog W 0 (fun _ => true) true m0 3 [c0_7] = some y0_7 := by have h : DataW.trod enc Try.prog W 0 (fun _ => true) true m0 3 (List.take (Try.prog.cellsOf 3) (List.drop 7 [c0_0, c0_1, c0_2, c0_3, c0_4, c0_5, c0_6, c0_7, c0_8, c0_9, c0_10, c0_11, c0_12])) = some y0_7 := (hf0 7 _ rfl).trans g0_7; rw [hc0_3] at h; exact h
  obtain ⟨y0_8, g0_8⟩ : ∃ y, xs0[8]? = some y := ⟨_, List.getElem?_eq_getElem (i := 8) (by rw [hq0]; decide)⟩
  have t0_8 : DataW.trod enc Try.prog W 0 (fun _ => true) true m0 3 [c0_8] = some y0_8 := by have h : DataW.trod enc Try.prog W 0 (fun _ => true) true m0 3 (List.take (Try.prog.cellsOf 3) (List.drop 8 [c0_0, c0_1, c0_2, c0_3, c0_4, c0_5, c0_6, c0_7, c0_8, c0_9, c0_10, c0_11, c0_12])) = some y0_8 := (hf0 8 _ rfl).trans g0_8; rw [hc0_3] at h; exact h
  obtain ⟨y0_9, g0_9⟩ : ∃ y, xs0[9]? = some y := ⟨_, List.getElem?_eq_getElem (i := 9) (by rw [hq0]; decide)⟩
  have t0_9 : DataW.trod enc Try.prog W 0 (fun _ => true) true m0 3 [c0_9] = some y0_9 := by have h : DataW.trod enc Try.prog W 0 (fun _ => true) true m0 3 (List.take (Try.prog.cellsOf 3) (List.drop 9 [c0_0, c0_1, c0_2, c0_3, c0_4, c0_5, c0_6, c0_7, c0_8, c0_9, c0_10, c0_11, c0_12])) = some y0_9 := (hf0 9 _ rfl).trans g0_9; rw [hc0_3] at h; exact h
  obtain ⟨y0_10, g0_10⟩ : ∃ y, xs0[10]? = some y := ⟨_, List.getElem?_eq_getElem (i := 10) (by rw [hq0]; decide)⟩
  have t0_10 : DataW.trod enc Try.prog W 0 (fun _ => true) true m0 3 [c0_10] = some y0_10 := by have h : DataW.trod enc Try.prog W 0 (fun _ => true) true m0 3 (List.take (Try.prog.cellsOf 3) (List.drop 10 [c0_0, c0_1, c0_2, c0_3, c0_4, c0_5, c0_6, c0_7, c0_8, c0_9, c0_10, c0_11, c0_12])) = some y0_10 := (hf0 10 _ rfl).trans g0_10; rw [hc0_3] at h; exact h
  obtain ⟨y0_11, g0_11⟩ : ∃ y, xs0[11]? = some y := ⟨_, List.getElem?_eq_getElem (i := 11) (by rw [hq0]; decide)⟩
  have t0_11 : DataW.trod enc Try.prog W 0 (fun _ => true) true m0 3 [c0_11] = some y0_11 := by have h : DataW.trod enc Try.prog W 0 (fun _ => true) true m0 3 (List.take (Try.prog.cellsOf 3) (List.drop 11 [c0_0, c0_1, c0_2, c0_3, c0_4, c0_5, c0_6, c0_7, c0_8, c0_9, c0_10, c0_11, c0_12])) = some y0_11 := (hf0 11 _ rfl).trans g0_11; rw [hc0_3] at h; exact h
  obtain ⟨y0_12, g0_12⟩ : ∃ y, xs0[12]? = some y := ⟨_, List.getElem?_eq_getElem (i := 12) (by rw [hq0]; decide)⟩
  have t0_12 : DataW.trod enc Try.prog W 0 (fun _ => true) true m0 3 [c0_12] = some y0_12 := by have h : DataW.trod enc Try.prog W 0 (fun _ => true) true m0 3 (List.take (Try.prog.cellsOf 3) (List.drop 12 [c0_0, c0_1, c0_2, c0_3, c0_4, c0_5, c0_6, c0_7, c0_8, c0_9, c0_10, c0_11, c0_12])) = some y0_12 := (hf0 12 _ rfl).trans g0_12; rw [hc0_3] at h; exact h
  obtain ⟨a0_0, e0_0, _, w0_0⟩ := DataW.trod_string Try.underlying9 t0_0
  obtain rfl := (List.cons.inj e0_0).1
  have z0_1 : ∃ (a : Option Addr) (len cap : Nat) (zs : List Int), c0_1 = .slice a len cap ∧ IsRow .i64 W a len cap zs := by
    rcases open_ints Try.underlying29 Try.underlying3 (by kernel_rfl) t0_1 with ⟨hcs, _⟩ | ⟨x, l, c, zs, hcs, _, hl, hm, hz, _, hcell, hwz⟩
    · exact ⟨none, 0, 0, [], (List.cons.inj hcs).1, .inl ⟨rfl, rfl, rfl, rfl⟩⟩
    · exact ⟨some x, l, c, zs, (List.cons.inj hcs).1, .inr ⟨_, rfl, hl, hm, by simpa using hz, hcell, hwz⟩⟩
  obtain ⟨A0_1, len0_1, cap0_1, zs0_1, rfl, w0_1⟩ := z0_1
  obtain ⟨a0_2, e0_2, _, w0_2⟩ := DataW.trod_int Try.underlying3 t0_2
  obtain rfl := (List.cons.inj e0_2).1
  obtain ⟨a0_3, e0_3, _, w0_3⟩ := DataW.trod_int Try.underlying3 t0_3
  obtain rfl := (List.cons.inj e0_3).1
  obtain ⟨a0_4, e0_4, _, w0_4⟩ := DataW.trod_int Try.underlying3 t0_4
  obtain rfl := (List.cons.inj e0_4).1
  obtain ⟨a0_5, e0_5, _, w0_5⟩ := DataW.trod_int Try.underlying3 t0_5
  obtain rfl := (List.cons.inj e0_5).1
  obtain ⟨a0_6, e0_6, _, w0_6⟩ := DataW.trod_int Try.underlying3 t0_6
  obtain rfl := (List.cons.inj e0_6).1
  obtain ⟨a0_7, e0_7, _, w0_7⟩ := DataW.trod_int Try.underlying3 t0_7
  obtain rfl := (List.cons.inj e0_7).1
  obtain ⟨a0_8, e0_8, _, w0_8⟩ := DataW.trod_int Try.underlying3 t0_8
  obtain rfl := (List.cons.inj e0_8).1
  obtain ⟨a0_9, e0_9, _, w0_9⟩ := DataW.trod_int Try.underlying3 t0_9
  obtain rfl := (List.cons.inj e0_9).1
  obtain ⟨a0_10, e0_10, _, w0_10⟩ := DataW.trod_int Try.underlying3 t0_10
  obtain rfl := (List.cons.inj e0_10).1
  obtain ⟨a0_11, e0_11, _, w0_11⟩ := DataW.trod_int Try.underlying3 t0_11
  obtain rfl := (List.cons.inj e0_11).1
  obtain ⟨a0_12, e0_12, _, w0_12⟩ := DataW.trod_int Try.underlying3 t0_12
  obtain rfl := (List.cons.inj e0_12).1
  obtain ⟨a1, rfl, rfl, rfl, w1⟩ := open_int Try.underlying3 (hval 1 3 v1 rfl rfl) h1
  have k2 := h2
  have lt2 : ∀ x ∈ p2, x.block < W.heap.size := by obtain ⟨m, hm⟩ := k2; exact DataW.trod_lt m _ _ _ hm
  obtain ⟨⟨cs2⟩, rfl, hsz2⟩ := okWide_array Try.underlying34 (hval 2 34 v2 rfl rfl)
  have hl2 : cs2.length = 2 := hsz2.trans (by kernel_rfl)
  obtain ⟨c2_0, tl2_0, rfl, hl2_0⟩ := cons_of hl2
  obtain ⟨c2_1, tl2_1, rfl, hl2_1⟩ := cons_of hl2_0
  obtain rfl := nil_of hl2_1
  obtain ⟨fuel2, hy2⟩ := h2
  replace hy2 : DataW.trod enc Try.prog W 0 (fun _ => true) true fuel2 34 [c2_0, c2_1] = some (d2, p2) := hy2
  have hc2_3 : Try.prog.cellsOf 3 = 1 := by kernel_rfl
  obtain ⟨xs2, m2, _, hx2, _, hq2, hf2⟩ := DataW.trod_array Try.underlying34 hy2
  obtain ⟨y2_0, g2_0⟩ : ∃ y, xs2[0]? = some y := ⟨_, List.getElem?_eq_getElem (i := 0) (by rw [hq2]; decide)⟩
  have t2_0 : DataW.trod enc Try.prog W 0 (fun _ => true) true m2 3 [c2_0] = some y2_0 := by have h := (hf2 0 (by omega)).trans g2_0; rw [hc2_3] at h; exact h
  obtain ⟨y2_1, g2_1⟩ : ∃ y, xs2[1]? = some y := ⟨_, List.getElem?_eq_getElem (i := 1) (by rw [hq2]; decide)⟩
  have t2_1 : DataW.trod enc Try.prog W 0 (fun _ => true) true m2 3 [c2_1] = some y2_1 := by have h := (hf2 1 (by omega)).trans g2_1; rw [hc2_3] at h; exact h
  obtain ⟨a2_0, e2_0, _, w2_0⟩ := DataW.trod_int Try.underlying3 t2_0
  obtain rfl := (List.cons.inj e2_0).1
  obtain ⟨a2_1, e2_1, _, w2_1⟩ := DataW.trod_int Try.underlying3 t2_1
  obtain rfl := (List.cons.inj e2_1).1
  clear hA0 hval0 hsz0
  refine (louder_law ⟨a0_0, a0_2, a0_3, a0_4, a0_5, a0_6, a0_7, a0_8, a0_9, a0_10, a0_11, a0_12⟩ A0_1 len0_1 cap0_1 zs0_1 a1 a2_0 a2_1 W w0_1).mono fun e W' ⟨he, bel0⟩ => ?_
  have bel : Below W.heap.size W W' := bel0
  subst he
  exact ⟨_, rfl, _, _, _, [], _, [], hW', trodAll_mk1 (shut_bool Try.underlying4 _), (trodAll_cons_mk (Below.trod laidOut (by kernel_rfl) (of_decide_eq_true (by kernel_rfl)) k0 bel lt0) (trodAll_cons_mk (shut_int Try.underlying3 w1) (trodAll_cons_mk (Below.trod laidOut (by kernel_rfl) (of_decide_eq_true (by kernel_rfl)) k2 bel lt2) trodAll_mk0))), rfl, bel.frame _, fun h => by cases h⟩
theorem over : Rows.tuneLouderRow.holds Try.pinned (OpenSpec.ofChange Rows.tuneLouderSpec) :=
  OpenClaim.holds_of_wide 5 Try.f5 rfl rfl rfl rfl rfl rfl rfl ⟨rfl, rfl, rfl, rfl, rfl⟩ rfl rfl rfl rfl rfl (by kernel_rfl) Try.func5 (by kernel_rfl)
    (of_decide_eq_true (by kernel_rfl)) (by unfold Func.isWrapper; first | (rw [if_pos (by decide +kernel)]; kernel_rfl) | (rw [if_neg (by decide +kernel)]; exact ⟨rfl, rfl⟩))
    (fun os started H enc _ => lifted os started H enc)
theorem proved : Rows.TuneLouderSaid := over
#print axioms proved
end Go.Proofs.Ytfodpoccjdaaaaa.tuneLouder

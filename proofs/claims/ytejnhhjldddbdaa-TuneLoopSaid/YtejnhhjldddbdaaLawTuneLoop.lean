/- Written by a program of this session (wip/tools/gen_row.py): the row of a law whose argument is a struct, opened field by field; no condition. -/
import Derived.Test.YtejnhhjldddbdaaRows
import Derived.Test.YtejnhhjldddbdaaPGxf6
import Derived.Test.YtejnhhjldddbdaaPureTuneLoop
import Derived.WalkKit
import Derived.ProofKit
import Derived.OpenShut
import Derived.ShutString
import Derived.ChangeOld
import Derived.Below
import Derived.SizedLaws
import Derived.Deep.Fields
import Derived.ChangeSame
import Derived.Deep.Slices
namespace Go.Proofs.Ytejnhhjldddbdaa.tuneLoop
open Go.ChangeShapes Go.WideShapes Go.ChangeAt Go.RowKit Go.Deep
open Go.ChangeMaps (open_string shut_string)
open Go.Proofs.YtejnhhjldddbdaaW.PrintWords Go.Proofs.YtejnhhjldddbdaaW.PrintLast Go.Proofs.YtejnhhjldddbdaaW.PrintMore Go.Proofs.Ytejnhhjldddbdaa.PG
set_option linter.unusedVariables false
theorem own : ownKnob Try.prog.godebug = none := by kernel_rfl
theorem laidOut : laidOutB Try.prog = true := by kernel_rfl
def IsRow (k : IntKind) (w : World) (a : Option Addr) (len cap : Nat) (zs : List Int) : Prop :=
  (a = none ∧ len = 0 ∧ cap = 0 ∧ zs = []) ∨
  ∃ x, a = some x ∧ len ≤ cap ∧ cap ≤ maxLen ∧ zs.length = cap ∧ (∀ i, i < zs.length → w.cell? (x.add i) = some (.int k (zs.getD i 0))) ∧ ∀ n ∈ zs, (Lit.int k n).wf = true
section
variable {H : Type} {enc : TypeId × Value → H} {P : Program} {w : World} {base : Nat} {spare : Nat → Bool} {held : Bool}
theorem open_fields {r : Reach} {b0 : Nat} {t : TypeId} {fs : Array Field} {v : Value} {d : DataW H} {p : List MemPlace} (hs : P.underlying t = some (.struct fs)) (hone : oneCellFields P fs = true) (hC : P.cellsOf t = fs.size) {m : Nat} (hm : fs.size = m)
    (hv : Value.okWide P w r b0 t v) (h : DataW.Trod enc P w base spare held t v d p) :
    ∃ (cs : List Value) (n : Nat), v = .agg ⟨cs⟩ ∧ cs.length = m ∧ ∀ (j : Nat) (f : Field), fs[j]? = some f → ∃ (c : Value) (y : DataW H × List MemPlace), cs[j]? = some c ∧ DataW.trod enc P w base spare held n f.type [c] = some y := by
  obtain ⟨⟨cs⟩, rfl, hsz⟩ := okWide_struct hs hv
  have hl : cs.length = fs.size := hsz.trans hC
  obtain ⟨fuel, hf⟩ := h
  obtain ⟨xs, n, _, hx, _, hlen, hg⟩ := DataW.trod_struct hs hf
  refine ⟨cs, n, rfl, hl.trans hm, fun j f hj => ?_⟩
  obtain ⟨ho, hk⟩ := hone_of hone j f hj
  have hjl : j < fs.size := (Array.getElem?_eq_some_iff.1 hj).1
  have h1 := hg j f hj
  rw [ho, hk] at h1
  have e1 : ((Value.agg ⟨cs⟩).cells.toList.drop j).take 1 = [cs[j]'(by omega)] := by
    show (cs.drop j).take 1 = _
    rw [List.drop_eq_getElem_cons (by omega)]
    rfl
  rw [e1] at h1
  exact ⟨cs[j]'(by omega), xs[j]'(by omega), List.getElem?_eq_getElem (by omega), h1.trans (List.getElem?_eq_getElem (by omega))⟩
end
theorem cons_of {α : Type} {n : Nat} : ∀ {l : List α}, l.length = n + 1 → ∃ c t, l = c :: t ∧ t.length = n
  | c :: t, h => ⟨c, t, rfl, by simpa using h⟩
theorem nil_of {α : Type} : ∀ {l : List α}, l.length = 0 → l = []
  | [], _ => rfl
set_option maxHeartbeats 4000000 in
set_option maxRecDepth 100000 in
theorem lifted (os : Os) (started : os.Started) (H : Type) (enc : TypeId × Value → H) :
    ReturnsInHanded {} Try.checked os 6 .any (Rows.tuneLoopSpec.pre6 enc Try.prog Try.f6 Rows.tuneLoopRow.domain false) (Rows.tuneLoopSpec.post enc Try.prog Try.f6 false true false false) := by
  refine returnsInHanded_of_change_sized (C := Try.checked) own started (by kernel_rfl) Try.func6
    (ChangeSpec.witness6 (enc := enc) (C := Try.checked) false ⟨#[], #[.agg #[.string ByteArray.empty, .slice none 0 0, .int .i64 0, .int .i64 0, .int .i64 0, .int .i64 0, .int .i64 0, .int .i64 0, .int .i64 0, .int .i64 0, .int .i64 0, .int .i64 0, .int .i64 0], .int .i64 0, .int .i64 0], []⟩ 8 (by kernel_rfl) (by kernel_rfl) (by kernel_rfl) (by kernel_rfl)) ?_
  intro W base args ds gs before hval0 hW hcnd hsz0 _
  have hval : ∀ (j : Nat) t v, Try.f6.params[j]? = some t → args[j]? = some v → Value.okWide Try.prog W .any base t v := hval0
  have hW' := hW
  obtain ⟨p, q, hA0, hV, rfl, hfz, hnd⟩ := hW
  have hA : DataW.TrodAll enc Try.prog W 0 (fun _ => true) true Try.f6.params.toList args.toList ds p := hA0
  rw [Try.params6] at hA hval
  obtain ⟨v0, vs0, d0, ds0, p0, q0, hargs, rfl, rfl, h0, r0⟩ := trodAll_cons hA
  obtain ⟨v1, vs1, d1, ds1, p1, q1, rfl, rfl, rfl, h1, r1⟩ := trodAll_cons r0
  obtain ⟨v2, vs2, d2, ds2, p2, q2, rfl, rfl, rfl, h2, r2⟩ := trodAll_cons r1
  obtain ⟨rfl, rfl, rfl⟩ := trodAll_nil r2
  obtain rfl : args = #[v0, v1, v2] := by cases args; simp_all
  obtain ⟨rfl, rfl⟩ := trodVars_none hV
  have k0 := h0
  have lt0 : ∀ x ∈ p0, x.block < W.heap.size := by obtain ⟨m, hm⟩ := k0; exact DataW.trod_lt m _ _ _ hm
  obtain ⟨cs0, n0, rfl, hl0, F0⟩ := open_fields Try.underlying24 (by kernel_rfl) (by kernel_rfl) (m := 13) (by kernel_rfl) (hval 0 24 v0 rfl rfl) h0
  obtain ⟨c0_0, tl0_0, rfl, hl0_0⟩ := cons_of hl0
  obtain ⟨c0_1, tl0_1, rfl, hl0_1⟩ := cons_of hl0_0
  obtain ⟨c0_2, tl0_2, rfl, hl0_2⟩ := cons_of hl0_1
  obtain ⟨c0_3, tl0_3, rfl, hl0_3⟩ := cons_of hl0_2
  obtain ⟨c0_4, tl0_4, rfl, hl0_4⟩ := cons_of hl0_3
  obtain ⟨c0_5, tl0_5, rfl, hl0_5⟩ := cons_of hl0_4
  obtain ⟨c0_6, tl0_6, rfl, hl0_6⟩ := cons_of hl0_5
  obtain ⟨c0_7, tl0_7, rfl, hl0_7⟩ := cons_of hl0_6
  obtain ⟨c0_8, tl0_8, rfl, hl0_8⟩ := cons_of hl0_7
  obtain ⟨c0_9, tl0_9, rfl, hl0_9⟩ := cons_of hl0_8
  obtain ⟨c0_10, tl0_10, rfl, hl0_10⟩ := cons_of hl0_9
  obtain ⟨c0_11, tl0_11, rfl, hl0_11⟩ := cons_of hl0_10
  obtain ⟨c0_12, tl0_12, rfl, hl0_12⟩ := cons_of hl0_11
  obtain rfl := nil_of hl0_12
  obtain ⟨_, x0_0, g0_0, t0_0⟩ := F0 0 _ rfl
  obtain rfl := Option.some.inj g0_0
  obtain ⟨a0_0, e0_0, _, y0_0⟩ := DataW.trod_string Try.underlying9 t0_0
  obtain rfl := (List.cons.inj e0_0).1
  obtain ⟨_, x0_1, g0_1, t0_1⟩ := F0 1 _ rfl
  obtain rfl := Option.some.inj g0_1
  have z0_1 : ∃ (a : Option Addr) (len cap : Nat) (zs : List Int), c0_1 = .slice a len cap ∧ IsRow .i64 W a len cap zs := by
    rcases open_ints Try.underlying22 Try.underlying3 (by kernel_rfl) t0_1 with ⟨hcs, _⟩ | ⟨x, l, c, zs, hcs, _, hl, hm, hz, _, hcell, hwz⟩
    · exact ⟨none, 0, 0, [], (List.cons.inj hcs).1, .inl ⟨rfl, rfl, rfl, rfl⟩⟩
    · exact ⟨some x, l, c, zs, (List.cons.inj hcs).1, .inr ⟨_, rfl, hl, hm, by simpa using hz, hcell, hwz⟩⟩
  obtain ⟨A0_1, len0_1, cap0_1, zs0_1, rfl, w0_1⟩ := z0_1
  obtain ⟨l0_1, rfl, hr0_1, hm0_1, hw0_1, hc0_1⟩ := ReadsInt.ofRowC w0_1
  obtain ⟨_, x0_2, g0_2, t0_2⟩ := F0 2 _ rfl
  obtain rfl := Option.some.inj g0_2
  obtain ⟨a0_2, e0_2, _, w0_2⟩ := DataW.trod_int Try.underlying3 t0_2
  obtain rfl := (List.cons.inj e0_2).1
  obtain ⟨_, x0_3, g0_3, t0_3⟩ := F0 3 _ rfl
  obtain rfl := Option.some.inj g0_3
  obtain ⟨a0_3, e0_3, _, w0_3⟩ := DataW.trod_int Try.underlying3 t0_3
  obtain rfl := (List.cons.inj e0_3).1
  obtain ⟨_, x0_4, g0_4, t0_4⟩ := F0 4 _ rfl
  obtain rfl := Option.some.inj g0_4
  obtain ⟨a0_4, e0_4, _, w0_4⟩ := DataW.trod_int Try.underlying3 t0_4
  obtain rfl := (List.cons.inj e0_4).1
  obtain ⟨_, x0_5, g0_5, t0_5⟩ := F0 5 _ rfl
  obtain rfl := Option.some.inj g0_5
  obtain ⟨a0_5, e0_5, _, w0_5⟩ := DataW.trod_int Try.underlying3 t0_5
  obtain rfl := (List.cons.inj e0_5).1
  obtain ⟨_, x0_6, g0_6, t0_6⟩ := F0 6 _ rfl
  obtain rfl := Option.some.inj g0_6
  obtain ⟨a0_6, e0_6, _, w0_6⟩ := DataW.trod_int Try.underlying3 t0_6
  obtain rfl := (List.cons.inj e0_6).1
  obtain ⟨_, x0_7, g0_7, t0_7⟩ := F0 7 _ rfl
  obtain rfl := Option.some.inj g0_7
  obtain ⟨a0_7, e0_7, _, w0_7⟩ := DataW.trod_int Try.underlying3 t0_7
  obtain rfl := (List.cons.inj e0_7).1
  obtain ⟨_, x0_8, g0_8, t0_8⟩ := F0 8 _ rfl
  obtain rfl := Option.some.inj g0_8
  obtain ⟨a0_8, e0_8, _, w0_8⟩ := DataW.trod_int Try.underlying3 t0_8
  obtain rfl := (List.cons.inj e0_8).1
  obtain ⟨_, x0_9, g0_9, t0_9⟩ := F0 9 _ rfl
  obtain rfl := Option.some.inj g0_9
  obtain ⟨a0_9, e0_9, _, w0_9⟩ := DataW.trod_int Try.underlying3 t0_9
  obtain rfl := (List.cons.inj e0_9).1
  obtain ⟨_, x0_10, g0_10, t0_10⟩ := F0 10 _ rfl
  obtain rfl := Option.some.inj g0_10
  obtain ⟨a0_10, e0_10, _, w0_10⟩ := DataW.trod_int Try.underlying3 t0_10
  obtain rfl := (List.cons.inj e0_10).1
  obtain ⟨_, x0_11, g0_11, t0_11⟩ := F0 11 _ rfl
  obtain rfl := Option.some.inj g0_11
  obtain ⟨a0_11, e0_11, _, w0_11⟩ := DataW.trod_int Try.underlying3 t0_11
  obtain rfl := (List.cons.inj e0_11).1
  obtain ⟨_, x0_12, g0_12, t0_12⟩ := F0 12 _ rfl
  obtain rfl := Option.some.inj g0_12
  obtain ⟨a0_12, e0_12, _, w0_12⟩ := DataW.trod_int Try.underlying3 t0_12
  obtain rfl := (List.cons.inj e0_12).1
  obtain ⟨a1, rfl, rfl, rfl, w1⟩ := open_int Try.underlying3 (hval 1 3 v1 rfl rfl) h1
  obtain ⟨a2, rfl, rfl, rfl, w2⟩ := open_int Try.underlying3 (hval 2 3 v2 rfl rfl) h2
  clear hA0 hval0 hsz0
  obtain ⟨k, h⟩ := Pure.TuneLoop a0_0 l0_1 a0_2 a0_3 a0_4 a0_5 a0_6 a0_7 a0_8 a0_9 a0_10 a0_11 a0_12 a1 a2 y0_0 hm0_1 hw0_1 w0_2 w0_3 w0_4 w0_5 w0_6 w0_7 w0_8 w0_9 w0_10 w0_11 w0_12 w1 w2
  refine (PG.orchestrionlaw25_TuneLoop.calls k a0_0 _ _ l0_1 a0_2 a0_3 a0_4 a0_5 a0_6 a0_7 a0_8 a0_9 a0_10 a0_11 a0_12 a1 a2 true W (Kd.C_of_reads (d := (0 : Int)) (h1 := fun _ => rfl) hr0_1) hc0_1 h).mono fun e W' ⟨he, bel0⟩ => ?_
  have bel : Below W.heap.size W W' := bel0
  subst he
  exact ⟨_, rfl, _, _, _, [], _, [], hW', trodAll_mk1 (shut_bool Try.underlying4 _), (trodAll_cons_mk (Below.trod laidOut (by kernel_rfl) (of_decide_eq_true (by kernel_rfl)) k0 bel lt0) (trodAll_cons_mk (shut_int Try.underlying3 w1) (trodAll_cons_mk (shut_int Try.underlying3 w2) trodAll_mk0))), rfl, bel.frame _, fun h => by cases h⟩
theorem over : Rows.tuneLoopRow.holds Try.pinned (OpenSpec.ofChange Rows.tuneLoopSpec) :=
  OpenClaim.holds_of_wide 6 Try.f6 rfl rfl rfl rfl rfl rfl rfl ⟨rfl, rfl, rfl, rfl, rfl⟩ rfl rfl rfl rfl rfl (by kernel_rfl) Try.func6 (by kernel_rfl)
    (of_decide_eq_true (by kernel_rfl)) (by unfold Func.isWrapper; first | (rw [if_pos (by decide +kernel)]; kernel_rfl) | (rw [if_neg (by decide +kernel)]; exact ⟨rfl, rfl⟩))
    (fun os started H enc _ => lifted os started H enc)
theorem proved : Rows.TuneLoopSaid := over
#print axioms proved
end Go.Proofs.Ytejnhhjldddbdaa.tuneLoop
namespace Go.Proofs.Ytejnhhjldddbdaa
/-- The row, under a short name, for the claim. -/
theorem tuneLoop_holds : Rows.TuneLoopSaid := tuneLoop.proved
end Go.Proofs.Ytejnhhjldddbdaa

/- R25's base, told by this seat's words: what a valid sample is. -/
import Derived.Test.YtnmoiolddfboiaaSxW
namespace Go.Proofs.Ytnmoiolddfboiaa.TX
open Go.RowKit Go.Proofs.YtnmoiolddfboiaaW.PrintLast
set_option linter.unusedVariables false
set_option linter.unusedSimpArgs false
abbrev vS (s : S) (n : Nat) (xs : Nat → Int) : Bool := SX.vS s n xs
theorem valid_any (s : S) (A : Option Addr) (n c b o : Nat) (xs : Nat → Int) (hn : n ≤ 1000000) (hc : n ≤ c) (w : World) (h : DataAt w A n b o xs) : Calls Try.prog 15 #[.agg (s.cs A n c)] w fun e w' => e = .returned (.bool (vS s n xs)) ∧ Below w.heap.size w w' := SX.valid_any s A n c b o xs (by omega) hc w h
theorem rvalid_any (s : S) (A : Option Addr) (n c b o : Nat) (xs : Nat → Int) (hn : n ≤ 1000000) (hc : n ≤ c) (w : World) (h : DataAt w A n b o xs) : Calls Try.prog 25 #[.agg (s.cs A n c)] w fun e w' => e = .returned (.bool (vS s n xs)) ∧ Below w.heap.size w w' := SX.rvalid_any s A n c b o xs (by omega) hc w h
theorem vS_facts {s : S} {n : Nat} {xs : Nat → Int} (h : vS s n xs = true) : n ≤ 4096 ∧ s.nm.size ≤ 22 ∧ (∃ hh, Bits s.a2 hh ∧ ∀ i, i < n → -hh ≤ xs i ∧ xs i ≤ hh - 1) ∧ SX.LpOk s.a7 s.a8 s.a9 n := by
  obtain ⟨h1, h2, h3, h4, h5, h6, h7, h8⟩ := SX.vS_yes h
  refine ⟨h3, h1, ⟨SX.hb s.a2, ?_, h5⟩, h7⟩
  rcases h2 with e | e
  · rw [e]; exact .inl ⟨rfl, rfl⟩
  · rw [e]; exact .inr ⟨rfl, rfl⟩
theorem vS_no {s : S} {n : Nat} {xs : Nat → Int} (h : ¬ vS s n xs = true) : vS s n xs = false := by simpa using h
theorem ownFull {w : World} {B g n : Nat} {xs : List Value} (h : w.ownsRow B 3 1 (.slice (some ⟨g, 0, none⟩) n n) n xs) : w.heap[g]? = some (.cells xs.toArray 3 (0, 0)) := by
  rcases h.2 with ⟨h', _⟩ | ⟨g', cap', cur, h', h1, hg, h2, h3, h4, h5⟩
  · simp at h'
  · simp only [Value.slice.injEq, Option.some.injEq, Addr.mk.injEq, and_true, true_and] at h'
    obtain ⟨rfl, rfl⟩ := h'
    rw [hg]
    have : cur.toList = xs := by rw [← h5, List.take_of_length_le (by simp; omega)]
    rw [← this]
theorem fullOwn {w : World} {B g n : Nat} {xs : List Value} (h : w.heap[g]? = some (.cells xs.toArray 3 (0, 0))) (hl : xs.length = n) (hB : B ≤ g) (hn : n ≤ 1000000) : w.ownsRow B 3 1 (.slice (some ⟨g, 0, none⟩) n n) n xs :=
  ⟨by omega, .inr ⟨g, n, xs.toArray, rfl, hB, h, Nat.le_refl _, by unfold maxLen; omega, by simp [hl], by simp [← hl]⟩⟩
/-- what a function answers in every world of M: a sample and an error's number -/
def Answers (f : FuncId) (args : Array Value) (M : World → Prop) (s : S) (n : Nat) (F : Nat → Int) (err : Int) : Prop :=
  ∀ w, M w → Calls Try.prog f args w fun e w' => ∃ A c b o, e = .returned (.tuple #[.agg (s.cs A n c), iv err]) ∧ DataAt w' A n b o F ∧ Below w.heap.size w w'
theorem noData (w : World) : DataAt w none 0 0 0 (fun _ => 0) := ⟨fun h => by omega, fun h => by omega, fun i h => by omega⟩
theorem answers_err {f : FuncId} {args : Array Value} {M : World → Prop} {k : Int} (h : ∀ w, M w → Calls Try.prog f args w fun e w' => e = .returned (.tuple #[.agg (S.zero.cs none 0 0), iv k]) ∧ Below w.heap.size w w') : Answers f args M S.zero 0 (fun _ => 0) k :=
  fun w hw => (h w hw).mono fun e w' ⟨he, hb⟩ => ⟨none, 0, 0, 0, he, noData w', hb⟩
theorem al4a (w : World) (A B C D : Obj) : ((((w.alloc A).alloc B).alloc C).alloc D).heap[w.heap.size]? = some A := bkAlloc (bkAlloc (heap_alloc2_old w A B) C) D
theorem al4b (w : World) (A B C D : Obj) : ((((w.alloc A).alloc B).alloc C).alloc D).heap[w.heap.size + 1]? = some B := bkAlloc (bkAlloc (heap_alloc2_new w A B) C) D
theorem al4c (w : World) (A B C D : Obj) : ((((w.alloc A).alloc B).alloc C).alloc D).heap[w.heap.size + 1 + 1]? = some C := by
  have := heap_alloc2_old ((w.alloc A).alloc B) C D
  simpa only [World.size_alloc] using this
theorem al4d (w : World) (A B C D : Obj) : ((((w.alloc A).alloc B).alloc C).alloc D).heap[w.heap.size + 1 + 1 + 1]? = some D := by
  have := heap_alloc2_new ((w.alloc A).alloc B) C D
  simpa only [World.size_alloc] using this
theorem al3a (w : World) (A B C : Obj) : (((w.alloc A).alloc B).alloc C).heap[w.heap.size]? = some A := bkAlloc (heap_alloc2_old w A B) C
theorem al3b (w : World) (A B C : Obj) : (((w.alloc A).alloc B).alloc C).heap[w.heap.size + 1]? = some B := bkAlloc (heap_alloc2_new w A B) C
theorem al3c (w : World) (A B C : Obj) : (((w.alloc A).alloc B).alloc C).heap[w.heap.size + 1 + 1]? = some C := by
  have := heap_alloc_new ((w.alloc A).alloc B) C
  simpa only [World.size_alloc] using this
end Go.Proofs.Ytnmoiolddfboiaa.TX

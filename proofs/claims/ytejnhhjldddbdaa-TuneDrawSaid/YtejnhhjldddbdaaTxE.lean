/- Samples: Valid by the program and by the reference, answers. -/
import Derived.Test.YtejnhhjldddbdaaTxD
import Derived.Test.YtejnhhjldddbdaaPureLib
namespace Go.Proofs.Ytejnhhjldddbdaa.TX
open Go.RowKit Go.Proofs.YtejnhhjldddbdaaW.PrintWords Go.Proofs.YtejnhhjldddbdaaW.PrintLast
set_option linter.unusedVariables false
set_option linter.unusedSimpArgs false
def lst (xs : Nat → Int) (n : Nat) : List Int := (List.range n).map xs
theorem lst_len (xs : Nat → Int) (n : Nat) : (lst xs n).length = n := by simp [lst]
theorem lst_at (xs : Nat → Int) (n i : Nat) (h : i < n) : (lst xs n)[i]? = some (xs i) := by simp [lst, h]
def vS (s : S) (n : Nat) (xs : Nat → Int) : Bool := Pure.validB s.nm (lst xs n) s.a2 s.a3 s.a4 s.a5 s.a6 s.a7 s.a8 s.a9 s.a10 s.a11 s.a12
theorem dataC {w : World} {A : Option Addr} {n b o : Nat} {xs : Nat → Int} (h : DataAt w A n b o xs) (hn : n ≤ 1000000) : Kd.C (Kd.int .i64) w A (lst xs n).length (lst xs n) := by
  refine ⟨rfl, by rw [lst_len]; omega, fun hp => ?_⟩
  rw [lst_len] at hp
  refine ⟨⟨b, o, none⟩, h.top hp, fun j p hj => ⟨[.int .i64 p], rfl, rfl, fun i u hu => ?_⟩⟩
  have hjn : j < n := by have := (List.getElem?_eq_some_iff.1 hj).1; rwa [lst_len] at this
  rw [lst_at _ _ _ hjn] at hj
  obtain rfl := Option.some.inj hj
  have hi : i = 0 := by
    have := (List.getElem?_eq_some_iff.1 hu).1
    simpa using this
  subst hi
  obtain rfl : u = .int .i64 (xs j) := by simpa using hu.symm
  have := h.cell j hjn
  rw [addLit, show o + (j * (Kd.int IntKind.i64).sz + 0) = o + j from by show o + (j * 1 + 0) = o + j; omega]
  exact this
theorem valid_any (s : S) (A : Option Addr) (n c b o : Nat) (xs : Nat → Int) (hn : n ≤ 1000000) (hc : n ≤ c) (w : World) (h : DataAt w A n b o xs) : Calls Try.prog 44 #[.agg (s.cs A n c)] w fun e w' => e = .returned (.bool (vS s n xs)) ∧ Below w.heap.size w w' := by
  have := PG.sample_Valid.calls (4999 + 1) s.nm A c (lst xs n) s.a2 s.a3 s.a4 s.a5 s.a6 s.a7 s.a8 s.a9 s.a10 s.a11 s.a12 (vS s n xs) w (dataC h hn) (by rw [lst_len]; exact hc) (Pure.valid_at _ _ _ _ _ _ _ _ _ _ _ _ _)
  rw [lst_len] at this
  exact this
theorem rvalid_any (s : S) (A : Option Addr) (n c b o : Nat) (xs : Nat → Int) (hn : n ≤ 1000000) (hc : n ≤ c) (w : World) (h : DataAt w A n b o xs) : Calls Try.prog 26 #[.agg (s.cs A n c)] w fun e w' => e = .returned (.bool (vS s n xs)) ∧ Below w.heap.size w w' := by
  have := PG.orchestrionref02_Valid.calls (4999 + 1) s.nm A c (lst xs n) s.a2 s.a3 s.a4 s.a5 s.a6 s.a7 s.a8 s.a9 s.a10 s.a11 s.a12 (vS s n xs) w (dataC h hn) (by rw [lst_len]; exact hc) (Pure.rvalid_at _ _ _ _ _ _ _ _ _ _ _ _ _)
  rw [lst_len] at this
  exact this
theorem allD_get (lo hi : Int) (l : List Int) : ∀ (d i : Nat), Pure.allD lo hi l i d = true → ∀ j : Nat, i ≤ j → j < i + d → lo ≤ rd l j ∧ rd l j ≤ hi
  | 0, i, _, j, h1, h2 => by omega
  | d + 1, i, h, j, h1, h2 => by
    rw [Pure.allD_s] at h
    by_cases c0 : rd l i < lo
    · rw [if_pos c0] at h; cases h
    rw [if_neg c0] at h
    by_cases c1 : rd l i > hi
    · rw [if_pos c1] at h; cases h
    rw [if_neg c1] at h
    rcases Nat.lt_or_ge i j with hij | hij
    · exact allD_get lo hi l d (i + 1) h j (by omega) (by omega)
    · obtain rfl : i = j := by omega
      exact ⟨by omega, by omega⟩
theorem rd_lst (xs : Nat → Int) (n j : Nat) (h : j < n) : rd (lst xs n) (j : Int) = xs j := by
  unfold rd
  rw [List.getD_eq_getElem?_getD, show ((j : Int)).toNat = j from rfl, lst_at _ _ _ h]
  rfl
theorem vS_facts {s : S} {n : Nat} {xs : Nat → Int} (h : vS s n xs = true) : n ≤ 4096 ∧ s.nm.size ≤ 22 ∧ (∃ hh, Bits s.a2 hh ∧ ∀ i, i < n → -hh ≤ xs i ∧ xs i ≤ hh - 1) ∧ Pure.lp s.a7 s.a8 s.a9 n = true := by
  unfold vS Pure.validB at h
  rw [Bool.and_eq_true] at h
  obtain ⟨h1, h2⟩ := h
  have h1 := of_decide_eq_true h1
  rw [lst_len] at h1
  refine ⟨h1.2, h1.1, ?_⟩
  by_cases b8 : s.a2 = 8
  · rw [b8, show Pure.bits 8 = some (-128, 127) from rfl] at h2
    simp only [Bool.and_eq_true, lst_len, Pure.lps] at h2
    exact ⟨⟨128, .inl ⟨b8, rfl⟩, fun i hi => by have := allD_get (-128) 127 (lst xs n) n 0 h2.2.1 i (by omega) (by omega); rw [rd_lst _ _ _ hi] at this; omega⟩, h2.2.2.2.1⟩
  · by_cases b16 : s.a2 = 16
    · rw [b16, show Pure.bits 16 = some (-32768, 32767) from rfl] at h2
      simp only [Bool.and_eq_true, lst_len, Pure.lps] at h2
      exact ⟨⟨32768, .inr ⟨b16, rfl⟩, fun i hi => by have := allD_get (-32768) 32767 (lst xs n) n 0 h2.2.1 i (by omega) (by omega); rw [rd_lst _ _ _ hi] at this; omega⟩, h2.2.2.2.1⟩
    · rw [show Pure.bits s.a2 = none from by unfold Pure.bits; rw [if_neg b8, if_neg b16]] at h2
      cases h2
theorem vS_no {s : S} {n : Nat} {xs : Nat → Int} (h : ¬ vS s n xs = true) : vS s n xs = false := by simpa using h
theorem ownFull {w : World} {B g n : Nat} {xs : List Value} (h : w.ownsRow B 3 1 (.slice (some ⟨g, 0, none⟩) n n) n xs) : w.heap[g]? = some (.cells xs.toArray 3 (0, 0)) := by
  rcases h.2 with ⟨h', _⟩ | ⟨g', cap', cur, h', h1, hg, h2, h3, h4, h5⟩
  · simp at h'
  · simp only [Value.slice.injEq, Option.some.injEq, Addr.mk.injEq, and_true, true_and] at h'
    obtain ⟨rfl, rfl⟩ := h'
    rw [hg]
    have : cur.toList = xs := by rw [← h5, List.take_of_length_le (by simp; omega)]
    rw [← this]
theorem fullOwn {w : World} {B g n : Nat} {xs : List Value} (h : w.heap[g]? = some (.cells xs.toArray 3 (0, 0))) (hl : xs.length = n) (hB : B ≤ g) (hn : n ≤ 1000000) : w.ownsRow B 3 1 (.slice (some ⟨g, 0, none⟩) n n) n xs :=
  ⟨by omega, .inr ⟨g, n, xs.toArray, rfl, hB, h, Nat.le_refl _, by unfold maxLen; omega, by simp [hl], by simp [← hl]⟩⟩
/-- what a function answers in every world of M: a sample and an error's number -/
def Answers (f : FuncId) (args : Array Value) (M : World → Prop) (s : S) (n : Nat) (F : Nat → Int) (err : Int) : Prop :=
  ∀ w, M w → Calls Try.prog f args w fun e w' => ∃ A c b o, e = .returned (.tuple #[.agg (s.cs A n c), iv err]) ∧ DataAt w' A n b o F ∧ Below w.heap.size w w'
theorem noData (w : World) : DataAt w none 0 0 0 (fun _ => 0) := ⟨fun h => by omega, fun h => by omega, fun i h => by omega⟩
theorem answers_err {f : FuncId} {args : Array Value} {M : World → Prop} {k : Int} (h : ∀ w, M w → Calls Try.prog f args w fun e w' => e = .returned (.tuple #[.agg (S.zero.cs none 0 0), iv k]) ∧ Below w.heap.size w w') : Answers f args M S.zero 0 (fun _ => 0) k :=
  fun w hw => (h w hw).mono fun e w' ⟨he, hb⟩ => ⟨none, 0, 0, 0, he, noData w', hb⟩
set_option maxHeartbeats 4000000 in
set_option maxRecDepth 100000 in
theorem same_gen (s : S) (A D : Option Addr) (n c d b o b' o' : Nat) (xs : Nat → Int) (err : Int) (he : err = 0 ∨ err ≠ 0 ∧ s = S.zero ∧ n = 0) (hn : n ≤ 1000000) (w : World) (hA : DataAt w A n b o xs) (hD : DataAt w D n b' o' xs) :
    Calls Try.prog 18 #[.agg (s.cs A n c), .agg (s.cs D n d), iv err, iv err] w fun e w' => e = .returned (.bool true) ∧ Below w.heap.size w w' := by
  rcases he with rfl | ⟨hk, rfl, rfl⟩
  · exact same_ok s A n c D d b o b' o' xs hn w hA hD
  · clear hA hD
    have p1 := old2 w (S.zero.cs A 0 c) (S.zero.cs D 0 d) 1 (show _ = some (Value.slice A 0 c) from rfl)
    have p3 := old2 w (S.zero.cs A 0 c) (S.zero.cs D 0 d) 3 (show _ = some (iv 0) from rfl)
    have e0 : (err == err) = true := by simp
    have e1 : (err != 0) = true := by simp [hk]
    go_enter Try.func18, Try.ntmps18
    go_wp2
    go_ret
    exact ⟨rfl, ((Below.refl _ _).alloc (Nat.le_refl _) _).alloc (by simp) _⟩
theorem al4a (w : World) (A B C D : Obj) : ((((w.alloc A).alloc B).alloc C).alloc D).heap[w.heap.size]? = some A := bkAlloc (bkAlloc (heap_alloc2_old w A B) C) D
theorem al4b (w : World) (A B C D : Obj) : ((((w.alloc A).alloc B).alloc C).alloc D).heap[w.heap.size + 1]? = some B := bkAlloc (bkAlloc (heap_alloc2_new w A B) C) D
theorem al4c (w : World) (A B C D : Obj) : ((((w.alloc A).alloc B).alloc C).alloc D).heap[w.heap.size + 1 + 1]? = some C := by
  have := heap_alloc2_old ((w.alloc A).alloc B) C D
  simpa only [World.size_alloc] using this
theorem al4d (w : World) (A B C D : Obj) : ((((w.alloc A).alloc B).alloc C).alloc D).heap[w.heap.size + 1 + 1 + 1]? = some D := by
  have := heap_alloc2_new ((w.alloc A).alloc B) C D
  simpa only [World.size_alloc] using this
theorem al3a (w : World) (A B C : Obj) : (((w.alloc A).alloc B).alloc C).heap[w.heap.size]? = some A := bkAlloc (heap_alloc2_old w A B) C
theorem al3b (w : World) (A B C : Obj) : (((w.alloc A).alloc B).alloc C).heap[w.heap.size + 1]? = some B := bkAlloc (heap_alloc2_new w A B) C
theorem al3c (w : World) (A B C : Obj) : (((w.alloc A).alloc B).alloc C).heap[w.heap.size + 1 + 1]? = some C := by
  have := heap_alloc_new ((w.alloc A).alloc B) C
  simpa only [World.size_alloc] using this
end Go.Proofs.Ytejnhhjldddbdaa.TX

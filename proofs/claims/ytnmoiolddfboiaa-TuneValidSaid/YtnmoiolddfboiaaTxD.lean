/- Samples: the answers that are the same, Clone, mapped, Made. -/
import Derived.Test.YtnmoiolddfboiaaTxC
import Derived.Lib.SliceRun
import Derived.Shelf.Abstract
namespace Go.Proofs.Ytnmoiolddfboiaa.TX
open Go.RowKit Go.Proofs.YtnmoiolddfboiaaW.PrintLast
set_option linter.unusedVariables false
set_option linter.unusedSimpArgs false
set_option maxHeartbeats 4000000 in
set_option maxRecDepth 100000 in
theorem same_err (k : Int) (hk : k ≠ 0) (w : World) : Calls Try.prog 49 #[.agg (S.zero.cs none 0 0), .agg (S.zero.cs none 0 0), iv k, iv k] w fun e w' => e = .returned (.bool true) ∧ Below w.heap.size w w' := by
  have p1 := old2 w (S.zero.cs none 0 0) (S.zero.cs none 0 0) 1 (show _ = some (Value.slice none 0 0) from rfl)
  have p3 := old2 w (S.zero.cs none 0 0) (S.zero.cs none 0 0) 3 (show _ = some (iv 0) from rfl)
  have e0 : (k == k) = true := by simp
  have e1 : (k != 0) = true := by simp [hk]
  go_enter Try.func49, Try.ntmps49
  go_wp2
  go_ret
  exact ⟨rfl, ((Below.refl _ _).alloc (Nat.le_refl _) _).alloc (by simp) _⟩
set_option maxHeartbeats 4000000 in
set_option maxRecDepth 100000 in
theorem same_ok (s : S) (A : Option Addr) (n c : Nat) (D : Option Addr) (d b o b' o' : Nat) (xs : Nat → Int) (hn : n ≤ 1000000) (w : World) (hA : DataAt w A n b o xs) (hD : DataAt w D n b' o' xs) :
    Calls Try.prog 49 #[.agg (s.cs A n c), .agg (s.cs D n d), iv 0, iv 0] w fun e w' => e = .returned (.bool true) ∧ Below w.heap.size w w' := by
  have hb : Below w.heap.size w ((w.alloc (Obj.cells (s.cs A n c) 24)).alloc (Obj.cells (s.cs D n d) 24)) := ((Below.refl _ _).alloc (Nat.le_refl _) _).alloc (by simp) _
  have I := Lib.hid (sameSample_any s A n c D d b o b' o' xs hn ((w.alloc (Obj.cells (s.cs A n c) 24)).alloc (Obj.cells (s.cs D n d) 24)) (hA.later hb) (hD.later hb))
  have P := Lib.hid (heap_alloc2_old w (Obj.cells (s.cs A n c) 24) (Obj.cells (s.cs D n d) 24))
  have Q := Lib.hid (heap_alloc2_new w (Obj.cells (s.cs A n c) 24) (Obj.cells (s.cs D n d) 24))
  clear hA hD
  go_enter Try.func49, Try.ntmps49
  go_wp2_with (first
    | (refine gdOn (by rfl) ?_; refine wpList_load_row rfl 24 (.tmp 4) rfl (w.heap.size) rfl 24 _ (0, 0) _ P.out Try.underlying24 rfl (S.i24 _ _ _ _) ?_)
    | (refine gdOn (by rfl) ?_; refine wpList_load_row rfl 24 (.tmp 5) rfl (w.heap.size + 1) rfl 24 _ (0, 0) _ Q.out Try.underlying24 rfl (S.i24 _ _ _ _) ?_)
    | (go_at_call 50; (with_reducible refine I.out.mono ?_); rintro e w3 ⟨rfl, hb3⟩))
  go_ret
  exact ⟨rfl, bdT hb hb.size hb3⟩
theorem addLit (b o j : Nat) : (⟨b, o, none⟩ : Addr).add j = ⟨b, o + j, none⟩ := by unfold Addr.add; split <;> simp_all
set_option maxHeartbeats 4000000 in
set_option maxRecDepth 100000 in
theorem clone_any (A : Option Addr) (n c b o : Nat) (xs : Nat → Int) (hn : n ≤ 1000000) (w : World) (hA : DataAt w A n b o xs) :
    Calls Try.prog 76 #[.slice A n c] w fun e w' => ∃ v, e = .returned v ∧ w'.ownsRow w.heap.size 3 1 v n (rw_ xs n) ∧ Below w.heap.size w w' := by
  obtain ⟨i0, hi, hz0, hz1, hz2⟩ := info_parts info3
  have q22 : ∀ (w : World) (a : Option Addr) (n c n' c' : Nat), (binOp .eql 22 (.slice a n c) (.slice none n' c')).run Try.prog w = .ok (.bool a.isNone) w := fun w a n c n' c' => Lib.run_eql_slice_nil w _ _ a n c n' c' Try.underlying22
  rcases A with _ | ad
  · have hn0 : n = 0 := by
      rcases Nat.eq_zero_or_pos n with h | h
      · exact h
      · exact absurd (hA.top h) (by simp)
    subst hn0
    clear hA
    go_enter Try.func76, Try.ntmps76
    go_wp2
    go_ret
    exact ⟨_, rfl, ⟨by simp [rw_], .inl ⟨rfl, rfl⟩⟩, (Below.refl _ _)⟩
  · have hc : ∀ j u, (rw_ xs n)[j]? = some u → w.cell? (ad.add j) = some u := fun j u hj => by
      have hjn : j < n := by have := (List.getElem?_eq_some_iff.1 hj).1; rwa [rw_len] at this
      have ht := Option.some.inj (hA.top (by omega))
      subst ht
      rw [rw_at _ _ _ hjn] at hj
      obtain rfl := Option.some.inj hj
      rw [addLit]
      exact hA.cell j hjn
    have H := Lib.hid hc
    clear hA hc
    go_enter Try.func76, Try.ntmps76
    go_wp2_with (at_builtin; refine wpList_append_own _ rfl _ _ 22 rfl w.heap.size 3 i0 (.int .i64 0) 1 8 Try.underlying22 hi hz0 hz1 hz2 rfl (by decide) _ _ _ rfl (World.ownsRow_made w #[] 0 (Nat.le_refl _) (Nat.zero_le _) rfl) ad n c (rw_ xs n) rfl (by simp [rw_len]) (fun j u hj => Lib.cell?_alloc_some _ (H.out j u hj)) (by intro u hu; simp only [rw_, List.mem_map] at hu; obtain ⟨x, _, rfl⟩ := hu; rfl) (by unfold maxLen; omega) (by omega) (by simp) ?_; intro v' w1 hown hgrow _)
    go_ret
    exact ⟨v', rfl, ownEq hown (by omega) (by simp), ((Below.refl _ _).alloc (Nat.le_refl _) _).grown hgrow (by simp) (fun k hk => ownRowB (World.ownsRow_made (e := 3) (size := 1) w #[] 0 (Nat.le_refl _) (Nat.zero_le _) rfl) k hk)⟩
theorem upto_step {F H : Nat → Int} {j : Nat} (h : ∀ i, i < j → F i = H i) : ∀ i, i < j + 1 → (fun i => if i = j then H j else F i) i = H i := by
  intro i hi
  by_cases e : i = j
  · simp [e]
  · simp [e]; exact h i (by omega)
theorem ownCell {w : World} {B g n c m : Nat} {xs : List Value} (h : w.ownsRow B 3 1 (.slice (some ⟨g, 0, none⟩) n c) m xs) {p : Addr} (hp : g ≠ p.block) (u : Value) : (w.setCell p u).ownsRow B 3 1 (.slice (some ⟨g, 0, none⟩) n c) m xs := by
  refine ⟨h.1, ?_⟩
  rcases h.2 with ⟨h', _⟩ | ⟨g', cap', cur, h', h1, hg, h2⟩
  · simp at h'
  · simp only [Value.slice.injEq, Option.some.injEq, Addr.mk.injEq, and_true, true_and] at h'
    obtain ⟨rfl, rfl, rfl⟩ := h'
    exact .inr ⟨g, c, cur, rfl, h1, bkFar hg hp u, h2⟩
theorem cellRow {w : World} {g k i : Nat} {cs : Array Value} (hne : g ≠ k) : (w.setRow k cs).cell? ⟨g, i, none⟩ = w.cell? ⟨g, i, none⟩ := by
  unfold World.cell?
  rw [setRow_other w k g cs hne]
theorem DataAt.setRow {w : World} {A : Option Addr} {n b o k : Nat} {xs : Nat → Int} (h : DataAt w A n b o xs) (hne : 0 < n → b ≠ k) (cs : Array Value) : DataAt (w.setRow k cs) A n b o xs where
  top := h.top
  low hp := by have := h.low hp; simpa using this
  cell i hi := (cellRow (hne (by omega))).trans (h.cell i hi)
theorem bits_bd {b h : Int} (hb : Bits b h) : 1 ≤ h ∧ h ≤ 32768 := by rcases hb with ⟨_, rfl⟩ | ⟨_, rfl⟩ <;> omega
theorem S.set1 (s : S) (A D : Option Addr) (n c m d : Nat) : (s.cs A n c).setIfInBounds 1 (.slice D m d) = s.cs D m d := rfl
theorem clp_cases (h v : Int) (hh : 1 ≤ h) : (if -h < (if v < h - 1 then v else h - 1) then (if v < h - 1 then v else h - 1) else -h) = clp h v := by
  unfold clp
  repeat' split
  all_goals omega
set_option maxHeartbeats 16000000 in
set_option maxRecDepth 100000 in
theorem mapped_any (s : S) (A : Option Addr) (n c : Nat) (b o : Nat) (xs : Nat → Int) (h : Int) (hb : Bits s.a2 h) (hn : n ≤ 1000000) (k : FuncId) (caps : Array Value) (ek : Enters Try.prog k) (G : Nat → Int) (w : World) (hA : DataAt w A n b o xs)
    (hf : ∀ (W : World) (i : Nat), Below w.heap.size w W → i < n → Calls Try.prog k (#[iv i, iv (xs i)] ++ caps) W fun e w' => e = .returned (iv (G i)) ∧ Below W.heap.size W w') :
    Calls Try.prog 96 #[.agg (s.cs A n c), .func (.func k) #[] caps] w fun e w' => ∃ g, e = .returned (.agg (s.cs (some ⟨g, 0, none⟩) n n)) ∧ DataAt w' (some ⟨g, 0, none⟩) n g 0 (fun i => clp h (G i)) ∧ w.heap.size ≤ g ∧ Below w.heap.size w w' := by
  obtain ⟨i0, hi, hz0, hz1, hz2⟩ := info_parts info3
  have HD := Lib.hid hA
  have TA := Lib.hid hA.top
  have HF := Lib.hid hf
  have HB := Lib.hid hb
  have eK : ∀ (args : Array Value) (w : World), (callFunc k args).run Try.prog w = .ok (.enter k args) w := ek
  have c1 := (bkCell (heap_alloc2_old w (Obj.cells (s.cs A n c) 24) (Obj.cells #[Value.string ⟨#[]⟩, Value.slice none 0 0, iv 0, iv 0, iv 0, iv 0, iv 0, iv 0, iv 0, iv 0, iv 0, iv 0, iv 0] 24)) 1).trans (show _ = some (Value.slice A n c) from rfl)
  have c2 := (bkCell (heap_alloc2_old w (Obj.cells (s.cs A n c) 24) (Obj.cells #[Value.string ⟨#[]⟩, Value.slice none 0 0, iv 0, iv 0, iv 0, iv 0, iv 0, iv 0, iv 0, iv 0, iv 0, iv 0, iv 0] 24)) 2).trans (show _ = some (iv s.a2) from rfl)
  clear hA hf hb ek
  have l0 : (0 : Int) ≤ (n : Int) := by omega
  go_enter Try.func96, Try.ntmps96
  go_upto_region 2 with (go_at_call 88; (with_reducible refine (limit_any _ _ HB.out _).mono ?_); rintro e w0 ⟨rfl, m0, rfl⟩; have k0 : (((w.alloc (Obj.cells (s.cs A n c) 24)).alloc (Obj.cells #[Value.string ⟨#[]⟩, Value.slice none 0 0, iv 0, iv 0, iv 0, iv 0, iv 0, iv 0, iv 0, iv 0, iv 0, iv 0, iv 0] 24)).drewN m0).cell? ⟨w.heap.size, 1, none⟩ = some (Value.slice A n c) := c1)
  go_upto_region 3 with (at_make; refine wpList_make_full _ rfl _ _ 22 rfl w.heap.size 3 i0 (.int .i64 0) 1 Try.underlying22 hi hz0 hz1 .i64 .i64 _ _ n rfl rfl rfl rfl (by rw [hz2]; omega) (by unfold maxLen; omega) (by simp; omega) ?_; intro w1 hown hgrow; simp only [World.size_alloc, World.heap_drewN] at hown)
  have B1 : Below w.heap.size w w1 := (bdN (((Below.refl _ _).alloc (Nat.le_refl _) _).alloc (by simp) _) _).grown hgrow (by simp; omega) (by simp)
  have P1 := grBlk (by exact heap_alloc2_old w (Obj.cells (s.cs A n c) 24) (Obj.cells #[Value.string ⟨#[]⟩, Value.slice none 0 0, iv 0, iv 0, iv 0, iv 0, iv 0, iv 0, iv 0, iv 0, iv 0, iv 0, iv 0] 24)) hgrow (by simp)
  have Q1 := grBlk (by exact heap_alloc2_new w (Obj.cells (s.cs A n c) 24) (Obj.cells #[Value.string ⟨#[]⟩, Value.slice none 0 0, iv 0, iv 0, iv 0, iv 0, iv 0, iv 0, iv 0, iv 0, iv 0, iv 0, iv 0] 24)) hgrow (by simp)
  have k1 := (bkCell P1 1).trans (show _ = some (Value.slice A n c) from rfl)
  have hP1 := Lib.hid P1
  have hQ1 := Lib.hid Q1
  have hO1 := Lib.hid hown
  clear P1 Q1 hown hgrow c1 c2 k0
  go_upto_region 4 with (fail)
  go_loopw [23] (fun v wr => ∃ (k : Nat) (F : Nat → Int), k ≤ n ∧ v = iv k ∧ (∀ i, i < k → F i = clp h (G i)) ∧ wr.heap[w.heap.size]? = some (.cells (s.cs A n c) 24 (0, 0)) ∧ wr.heap[w.heap.size + 1]? = some (.cells #[Value.string ⟨#[]⟩, Value.slice none 0 0, iv 0, iv 0, iv 0, iv 0, iv 0, iv 0, iv 0, iv 0, iv 0, iv 0, iv 0] 24 (0, 0)) ∧ wr.ownsRow w.heap.size 3 1 (.slice (some ⟨w.heap.size + 1 + 1, 0, none⟩) n n) n (rw_ F n) ∧ Below w.heap.size w wr) (fun v _ => n - (intOf v).toNat)
  case atStart => exact ⟨0, fun _ => 0, by omega, rfl, fun i hi => by omega, hP1.out, hQ1.out, ownN hO1.out (by rw [rw_zero]; first | rfl | (rw [Nat.mul_one]; exact toList_madeCells_one _ _)), B1⟩
  case round =>
    clear k1 hP1 hQ1 hO1 B1
    obtain ⟨j, F, hj, rfl, hF, hP, hQ, hO, hB⟩ := hrel
    have NF := Lib.hid hF
    have NP := Lib.hid hP
    have NQ := Lib.hid hQ
    have NO := Lib.hid hO
    clear hF hP hQ hO
    have l1 : (0 : Int) ≤ (j : Int) := by omega
    by_cases hlt : j < n
    · have l2 : (j : Int) < (n : Int) := by omega
      have tA := TA.out (by omega)
      subst tA
      have c0 := (HD.out.kept hB (HD.out.low (by omega))).cell j hlt
      have KH := Lib.hid fun W hW => HF.out W j hW hlt
      go_upto_region 6 with (fail)
      go_wp2_with (go_at_fn k; (with_reducible refine (KH.out _ hB).mono ?_); rintro e w4 ⟨rfl, hb4⟩; have P4 := Lib.hid (bkBelow NP.out hb4); have Q4 := Lib.hid (bkBelow NQ.out hb4); have O4 := Lib.hid (ownBelow NO.out hb4); have B4 := bdT hB hB.size hb4; have s4 : w4.cell? ⟨w.heap.size + 1 + 1, j, none⟩ = some (iv (F j)) := (O4.out.cellAt j (by omega)).trans (rw_at F n j hlt); have f4 := O4.out.frozenAt j)
      rw [clp_cases h (G j) (bits_bd HB.out).1]
      exact ⟨⟨j + 1, fun i => if i = j then clp h (G j) else F i, by omega, by go_num, upto_step (H := fun i => clp h (G i)) NF.out, bkFar P4.out (by simp; omega) _, bkFar Q4.out (by simp) _, ownN (O4.out.stored j _).1 (rw_set F n j _), B4.setCell (by simp; omega) _⟩, by simp [intOf]; omega⟩
    · obtain rfl : j = n := by omega
      have q1 := (bkCell NP.out 1).trans (show _ = some (Value.slice A j c) from rfl)
      have f1 := bkFrozen NP.out 1
      go_upto_region 9 with (fail)
      have P5 := Lib.hid (bkPut NP.out 1 (.slice (some ⟨w.heap.size + 1 + 1, 0, none⟩) j j) (S.set1 s A (some ⟨w.heap.size + 1 + 1, 0, none⟩) j c j j))
      have Q5 := Lib.hid (bkFar NQ.out (p := ⟨w.heap.size, 1, none⟩) (by simp) (.slice (some ⟨w.heap.size + 1 + 1, 0, none⟩) j j))
      have D5 : DataAt (wr.setCell ⟨w.heap.size, 1, none⟩ (.slice (some ⟨w.heap.size + 1 + 1, 0, none⟩) j j)) (some ⟨w.heap.size + 1 + 1, 0, none⟩) j (w.heap.size + 1 + 1) 0 F := ownData (ownCell NO.out (by simp; omega) _)
      go_wp2_with (first
        | (refine wpList_load_row rfl 24 (.tmp 2) rfl (w.heap.size) rfl 24 _ (0, 0) _ P5.out Try.underlying24 rfl (S.i24 _ _ _ _) ?_)
        | (refine wpList_store_row rfl 24 (.tmp 4) (.tmp 42) rfl (w.heap.size + 1) (s.cs (some ⟨w.heap.size + 1 + 1, 0, none⟩) j j) rfl rfl 24 _ Q5.out (S.i24 _ _ _ _) (S.sz S.zero s none _ 0 0 _ _) (S.one _ _ _ _) ?_))
      refine bodyPost_ret (results_cell_row rfl _ _ (w.heap.size + 1) 24 _ (0, 0) _ rfl (setRow_heap _ _ _ _ _ _ Q5.out) Try.underlying24 rfl (S.i24 _ _ _ _)) rfl ⟨_, rfl, ?_, by omega, ?_⟩
      · exact (D5.setRow (fun _ => by omega) _).congr fun i hi => NF.out i hi
      · exact below_setRow (hB.setCell (by simp) _) (by omega) _
set_option maxHeartbeats 16000000 in
set_option maxRecDepth 100000 in
theorem made_any (s : S) (A : Option Addr) (n c : Nat) (D : Option Addr) (m d b o : Nat) (ys : Nat → Int) (h : Int) (hb : Bits s.a2 h) (hn : m ≤ 1000000) (w : World) (hA : DataAt w D m b o ys) :
    Calls Try.prog 92 #[.agg (s.cs A n c), .slice D m d] w fun e w' => ∃ g, e = .returned (.agg (s.cs (some ⟨g, 0, none⟩) m m)) ∧ DataAt w' (some ⟨g, 0, none⟩) m g 0 (fun i => clp h (ys i)) ∧ w.heap.size ≤ g ∧ Below w.heap.size w w' := by
  obtain ⟨i0, hi, hz0, hz1, hz2⟩ := info_parts info3
  have HD := Lib.hid hA
  have TA := Lib.hid hA.top
  have HB := Lib.hid hb
  clear hA hb
  have l0 : (0 : Int) ≤ (m : Int) := by omega
  go_enter Try.func92, Try.ntmps92
  go_upto_region 2 with (at_make; refine wpList_make_full _ rfl _ _ 22 rfl w.heap.size 3 i0 (.int .i64 0) 1 Try.underlying22 hi hz0 hz1 .i64 .i64 _ _ m rfl rfl rfl rfl (by rw [hz2]; omega) (by unfold maxLen; omega) (by simp; omega) ?_; intro w1 hown hgrow; simp only [World.size_alloc] at hown)
  have B1 : Below w.heap.size w w1 := (((Below.refl _ _).alloc (Nat.le_refl _) _).alloc (by simp) _).grown hgrow (by simp; omega) (by simp)
  have P1 := grBlk (heap_alloc2_old w (Obj.cells (s.cs A n c) 24) (Obj.cells #[Value.string ⟨#[]⟩, Value.slice none 0 0, iv 0, iv 0, iv 0, iv 0, iv 0, iv 0, iv 0, iv 0, iv 0, iv 0, iv 0] 24)) hgrow (by simp)
  have Q1 := grBlk (heap_alloc2_new w (Obj.cells (s.cs A n c) 24) (Obj.cells #[Value.string ⟨#[]⟩, Value.slice none 0 0, iv 0, iv 0, iv 0, iv 0, iv 0, iv 0, iv 0, iv 0, iv 0, iv 0, iv 0] 24)) hgrow (by simp)
  have hP1 := Lib.hid P1
  have hQ1 := Lib.hid Q1
  have hO1 := Lib.hid hown
  clear P1 Q1 hown hgrow
  go_upto_region 3 with (fail)
  go_loopw [13] (fun v wr => ∃ (k : Nat) (F : Nat → Int), k ≤ m ∧ v = iv k ∧ (∀ i, i < k → F i = clp h (ys i)) ∧ wr.heap[w.heap.size]? = some (.cells (s.cs A n c) 24 (0, 0)) ∧ wr.heap[w.heap.size + 1]? = some (.cells #[Value.string ⟨#[]⟩, Value.slice none 0 0, iv 0, iv 0, iv 0, iv 0, iv 0, iv 0, iv 0, iv 0, iv 0, iv 0, iv 0] 24 (0, 0)) ∧ wr.ownsRow w.heap.size 3 1 (.slice (some ⟨w.heap.size + 1 + 1, 0, none⟩) m m) m (rw_ F m) ∧ Below w.heap.size w wr) (fun v _ => m - (intOf v).toNat)
  case atStart => exact ⟨0, fun _ => 0, by omega, rfl, fun i hi => by omega, hP1.out, hQ1.out, ownN hO1.out (by rw [rw_zero]; first | rfl | (rw [Nat.mul_one]; exact toList_madeCells_one _ _)), B1⟩
  case round =>
    clear hP1 hQ1 hO1 B1
    obtain ⟨j, F, hj, rfl, hF, hP, hQ, hO, hB⟩ := hrel
    have NF := Lib.hid hF
    have NP := Lib.hid hP
    have NQ := Lib.hid hQ
    have NO := Lib.hid hO
    clear hF hP hQ hO
    have l1 : (0 : Int) ≤ (j : Int) := by omega
    by_cases hlt : j < m
    · have l2 : (j : Int) < (m : Int) := by omega
      have tA := TA.out (by omega)
      subst tA
      have c0 := (HD.out.kept hB (HD.out.low (by omega))).cell j hlt
      go_upto_region 5 with (fail)
      go_wp2_with (first
        | (refine wpList_load_row rfl 24 (.tmp 2) rfl (w.heap.size) rfl 24 _ (0, 0) _ NP.out Try.underlying24 rfl (S.i24 _ _ _ _) ?_)
        | (go_at_call 120; (with_reducible refine (clip_any s A n c h HB.out (ys j) _).mono ?_); rintro e w4 ⟨rfl, hb4⟩; have P4 := Lib.hid (bkBelow NP.out hb4); have Q4 := Lib.hid (bkBelow NQ.out hb4); have O4 := Lib.hid (ownBelow NO.out hb4); have B4 := bdT hB hB.size hb4; have s4 : w4.cell? ⟨w.heap.size + 1 + 1, j, none⟩ = some (iv (F j)) := (O4.out.cellAt j (by omega)).trans (rw_at F m j hlt); have f4 := O4.out.frozenAt j))
      exact ⟨⟨j + 1, fun i => if i = j then clp h (ys j) else F i, by omega, by go_num, upto_step (H := fun i => clp h (ys i)) NF.out, bkFar P4.out (by simp; omega) _, bkFar Q4.out (by simp) _, ownN (O4.out.stored j _).1 (rw_set F m j _), B4.setCell (by simp; omega) _⟩, by simp [intOf]; omega⟩
    · obtain rfl : j = m := by omega
      have q1 := (bkCell NP.out 1).trans (show _ = some (Value.slice A n c) from rfl)
      have f1 := bkFrozen NP.out 1
      go_upto_region 8 with (fail)
      have P5 := Lib.hid (bkPut NP.out 1 (.slice (some ⟨w.heap.size + 1 + 1, 0, none⟩) j j) (S.set1 s A (some ⟨w.heap.size + 1 + 1, 0, none⟩) n c j j))
      have Q5 := Lib.hid (bkFar NQ.out (p := ⟨w.heap.size, 1, none⟩) (by simp) (.slice (some ⟨w.heap.size + 1 + 1, 0, none⟩) j j))
      have D5 : DataAt (wr.setCell ⟨w.heap.size, 1, none⟩ (.slice (some ⟨w.heap.size + 1 + 1, 0, none⟩) j j)) (some ⟨w.heap.size + 1 + 1, 0, none⟩) j (w.heap.size + 1 + 1) 0 F := ownData (ownCell NO.out (by simp; omega) _)
      go_wp2_with (first
        | (refine wpList_load_row rfl 24 (.tmp 2) rfl (w.heap.size) rfl 24 _ (0, 0) _ P5.out Try.underlying24 rfl (S.i24 _ _ _ _) ?_)
        | (refine wpList_store_row rfl 24 (.tmp 4) (.tmp 27) rfl (w.heap.size + 1) (s.cs (some ⟨w.heap.size + 1 + 1, 0, none⟩) j j) rfl rfl 24 _ Q5.out (S.i24 _ _ _ _) (S.sz S.zero s none _ 0 0 _ _) (S.one _ _ _ _) ?_))
      refine bodyPost_ret (results_cell_row rfl _ _ (w.heap.size + 1) 24 _ (0, 0) _ rfl (setRow_heap _ _ _ _ _ _ Q5.out) Try.underlying24 rfl (S.i24 _ _ _ _)) rfl ⟨_, rfl, ?_, by omega, ?_⟩
      · exact (D5.setRow (fun _ => by omega) _).congr fun i hi => NF.out i hi
      · exact below_setRow (hB.setCell (by simp) _) (by omega) _
end Go.Proofs.Ytnmoiolddfboiaa.TX

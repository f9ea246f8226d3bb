/- A sample copied with a frame of spare capacity; equal samples. -/
import Derived.Test.YtnmoiolddfboiaaSxI
import Derived.Test.YtnmoiolddfboiaaSxN
import Derived.Laws.CopyOwn
namespace Go.Proofs.Ytnmoiolddfboiaa.SX
open Go.RowKit Go.Proofs.YtnmoiolddfboiaaW.PrintLast Go.Proofs.Ytnmoiolddfboiaa.TX Go.Proofs.Ytnmoiolddfboiaa.Cu
set_option linter.unusedVariables false
set_option linter.unusedSimpArgs false
theorem ownFull {w : World} {B g n : Nat} {xs : List Value} (h : w.ownsRow B 3 1 (.slice (some ⟨g, 0, none⟩) n n) n xs) : w.heap[g]? = some (.cells xs.toArray 3 (0, 0)) := by
  rcases h.2 with ⟨h', _⟩ | ⟨g', cap', cur, h', h1, hg, h2, h3, h4, h5⟩
  · simp at h'
  · simp only [Value.slice.injEq, Option.some.injEq, Addr.mk.injEq, and_true, true_and] at h'
    obtain ⟨rfl, rfl⟩ := h'
    rw [hg]
    have : cur.toList = xs := by rw [← h5, List.take_of_length_le (by simp; omega)]
    rw [← this]
theorem fullOwnB {w : World} {B g n : Nat} {xs : List Value} (h : w.heap[g]? = some (.cells xs.toArray 3 (0, 0))) (hl : xs.length = n) (hB : B ≤ g) (hn : n ≤ 100000000000000) : w.ownsRow B 3 1 (.slice (some ⟨g, 0, none⟩) n n) n xs :=
  ⟨by omega, .inr ⟨g, n, xs.toArray, rfl, hB, h, Nat.le_refl _, by unfold maxLen; omega, by simp [hl], by simp [← hl]⟩⟩
theorem rowData {w : World} {g n N : Nat} {F : Nat → Int} (h : w.heap[g]? = some (.cells (rw_ F N).toArray 3 (0, 0))) (hn : n ≤ N) : DataAt w (some ⟨g, 0, none⟩) n g 0 F :=
  ⟨fun _ => rfl, fun _ => (Array.getElem?_eq_some_iff.1 h).1, fun i hi => (bkCell h (0 + i)).trans (by rw [Nat.zero_add, List.getElem?_toArray, rw_at F N i (by omega)])⟩
section
variable {ops : Array Oper} {rest : List Oper} {o : Oper} {a : Act} {Q : Exit → Act → World → Prop} {w : World}
/-- copy of a slice to the head of a row of one's own -/
theorem wpCopy (hgd : o.guard = none) (d s : Operand) (ho : o.op = .call { callee := .builtin .copy, args := #[d, s], argTypes := #[22, 22] }) (B g N n c b off : Nat) (A : Option Addr) (F xs : Nat → Int)
    (hd : a.eval d = .slice (some ⟨g, 0, none⟩) N N) (hs : a.eval s = .slice A n c) (hown : w.ownsRow B 3 1 (.slice (some ⟨g, 0, none⟩) N N) N (rw_ F N)) (hD : DataAt w A n b off xs) (hn : n ≤ N) (hN : N ≤ 100000000000000) (hB : B ≤ g)
    (h : ∀ w', w'.ownsRow B 3 1 (.slice (some ⟨g, 0, none⟩) N N) N (rw_ (fun i => if i < n then xs i else F i) N) → Below g w w' → wpList Try.prog ops Q rest (a.put o.dst (goInt n)) w') : wpList Try.prog ops Q (o :: rest) a w := by
  rcases Nat.eq_zero_or_pos n with h0 | h0
  · subst h0
    refine wpList_copy_nothing hgd d s 22 22 ho 3 Try.underlying22 (by kernel_rfl) (some ⟨g, 0, none⟩) A N N 0 c hd hs (by simp) ?_
    exact h w (by simpa using hown) (Below.refl _ _)
  · have hA := hD.top h0
    subst hA
    have hg := ownFull hown
    have hl : (rw_ xs n).length = n := rw_len _ _
    have e : ((rw_ F N).toArray.toList.take 0 ++ (rw_ xs n ++ (rw_ F N).toArray.toList.drop (0 + (rw_ xs n).length))) = rw_ (fun i => if i < n then xs i else F i) N := by
      apply List.ext_getElem?
      intro i
      rw [List.take_zero, List.nil_append, hl, Nat.zero_add]
      rcases Nat.lt_or_ge i n with hi | hi
      · rw [List.getElem?_append_left (by rw [hl]; exact hi), rw_at _ _ _ hi, rw_at _ _ _ (by omega), if_pos hi]
      · rw [List.getElem?_append_right (by rw [hl]; exact hi), hl, List.getElem?_drop, show n + (i - n) = i by omega]
        rcases Nat.lt_or_ge i N with hi2 | hi2
        · rw [show (rw_ F N).toArray.toList = rw_ F N from rfl, rw_at _ _ _ hi2, rw_at _ _ _ hi2, if_neg (by omega)]
        · rw [List.getElem?_eq_none (by rw [show (rw_ F N).toArray.toList = rw_ F N from rfl, rw_len]; exact hi2), List.getElem?_eq_none (by rw [rw_len]; exact hi2)]
    refine wpList_copy_own hgd d s 22 22 ho 3 Try.underlying22 (by kernel_rfl) g 0 N N ⟨b, off, none⟩ n c hd hs (rw_ F N).toArray 3 hg (rw_ xs n) (by rw [hl]; simp [Nat.min_eq_left hn]) (fun j v hj => ?_) (by rw [hl]; simp [rw_len]; omega) (by intro u hu; simp only [rw_, List.mem_map] at hu; obtain ⟨x, _, rfl⟩ := hu; rfl) ?_
    · have hjn : j < n := by have := (List.getElem?_eq_some_iff.1 hj).1; rwa [hl] at this
      rw [rw_at _ _ _ hjn] at hj
      obtain rfl := Option.some.inj hj
      rw [addLit]
      exact hD.cell j hjn
    · rw [e, show goInt (rw_ xs n).length = goInt n by rw [hl]]
      exact h _ (fullOwnB (setRow_heap _ _ _ _ _ _ hg) (rw_len _ _) hB hN) (below_setRow (Below.refl _ _) (Nat.le_refl _) _)
end
/-- what a copy holds: the frames, and 77 behind them -/
def cpF (xs : Nat → Int) (n i : Nat) : Int := if i < n then xs i else 77
theorem cp_fn (xs : Nat → Int) (n : Nat) : rw_ (fun i => if i = n then 77 else if i < n then xs i else 0) (n + 1) = rw_ (cpF xs n) (n + 1) := by
  refine rw_congr fun i hi => ?_
  unfold cpF
  by_cases e : i = n
  · rw [if_pos e, if_neg (by omega)]
  · rw [if_neg e, if_pos (by omega), if_pos (by omega)]
set_option maxHeartbeats 16000000 in
set_option maxRecDepth 100000 in
theorem copy_any (s : S) (A : Option Addr) (n c b o : Nat) (xs : Nat → Int) (hn : n ≤ 20000000000000) (w : World) (hA : DataAt w A n b o xs) :
    Calls Try.prog 23 #[.agg (s.cs A n c)] w fun e w' => ∃ g, e = .returned (.agg (s.cs (some ⟨g, 0, none⟩) n (n + 1))) ∧ w'.heap[g]? = some (.cells (rw_ (cpF xs n) (n + 1)).toArray 3 (0, 0)) ∧ w.heap.size ≤ g ∧ Below w.heap.size w w' := by
  obtain ⟨i0, hi, hz0, hz1, hz2⟩ := info_parts info3
  have HD := Lib.hid hA
  have HN := Lib.hid hn
  have c1 := (bkCell (heap_alloc2_old w (Obj.cells (s.cs A n c) 24) (Obj.cells #[Value.string ⟨#[]⟩, Value.slice none 0 0, iv 0, iv 0, iv 0, iv 0, iv 0, iv 0, iv 0, iv 0, iv 0, iv 0, iv 0] 24)) 1).trans (show _ = some (Value.slice A n c) from rfl)
  have l0 : (0 : Int) ≤ (n : Int) := by omega
  have wn : wrap64 ((n : Int) + 1) = (n : Int) + 1 := wrap_in (by omega) (by omega)
  clear hA hn
  go_enter Try.func23, Try.ntmps23
  go_upto_region 2 with (at_make; refine wpList_make_full _ rfl _ _ 22 rfl w.heap.size 3 i0 (.int .i64 0) 1 Try.underlying22 hi hz0 hz1 .i64 .i64 _ _ (n + 1) rfl rfl (wn.trans (by simp)) (wn.trans (by simp)) (by rw [hz2]; have := HN.out; omega) (by unfold maxLen; have := HN.out; omega) (by simp; omega) ?_; intro w1 hown hgrow; simp only [World.size_alloc, World.heap_drewN] at hown)
  have B1 : Below w.heap.size w w1 := (((Below.refl _ _).alloc (Nat.le_refl _) _).alloc (by simp) _).grown hgrow (by simp; omega) (by simp)
  have P1 := Lib.hid (grBlk (heap_alloc2_old w (Obj.cells (s.cs A n c) 24) (Obj.cells #[Value.string ⟨#[]⟩, Value.slice none 0 0, iv 0, iv 0, iv 0, iv 0, iv 0, iv 0, iv 0, iv 0, iv 0, iv 0, iv 0] 24)) hgrow (by simp))
  have Q1 := Lib.hid (grBlk (heap_alloc2_new w (Obj.cells (s.cs A n c) 24) (Obj.cells #[Value.string ⟨#[]⟩, Value.slice none 0 0, iv 0, iv 0, iv 0, iv 0, iv 0, iv 0, iv 0, iv 0, iv 0, iv 0, iv 0] 24)) hgrow (by simp))
  have O1 := Lib.hid hown
  clear hown hgrow c1
  have k1 := (bkCell P1.out 1).trans (show _ = some (Value.slice A n c) from rfl)
  have O1' := Lib.hid (ownN O1.out (show _ = rw_ (fun _ => 0) (n + 1) from by rw [rw_zero]; first | rfl | (rw [Nat.mul_one]; exact toList_madeCells_one _ _)))
  have D1 := Lib.hid (HD.out.later B1)
  have hN1 := HN.out
  go_upto_region 3 with (refine wpCopy rfl _ _ rfl w.heap.size (w.heap.size + 1 + 1) (n + 1) n c b o A (fun _ => 0) xs rfl rfl O1'.out D1.out (by omega) (by omega) (by omega) ?_; intro w2 hO2 hb2)
  clear hN1 k1
  have B2 := B1.trans (hb2.mono (by omega))
  have P2 := Lib.hid ((hb2.block w.heap.size (by omega)).trans P1.out)
  have Q2 := Lib.hid ((hb2.block (w.heap.size + 1) (by omega)).trans Q1.out)
  have O2 := Lib.hid hO2
  have s4 : w2.cell? ⟨w.heap.size + 1 + 1, n, none⟩ = some (iv 0) := (O2.out.cellAt n (by omega)).trans ((rw_at _ (n + 1) n (by omega)).trans (by simp))
  have f4 := O2.out.frozenAt n
  have k2 := (bkCell P2.out 1).trans (show _ = some (Value.slice A n c) from rfl)
  clear hO2 P1 Q1 O1 O1' D1
  go_upto_region 4 with (fail)
  have P3 := Lib.hid (bkFar P2.out (p := ⟨w.heap.size + 1 + 1, n, none⟩) (by simp; omega) (iv 77))
  have Q3 := Lib.hid (bkFar Q2.out (p := ⟨w.heap.size + 1 + 1, n, none⟩) (by simp) (iv 77))
  have O3 := Lib.hid (ownN (O2.out.stored n (iv 77)).1 ((rw_set _ (n + 1) n 77).trans (cp_fn xs n)))
  have B3 := B2.setCell (p := ⟨w.heap.size + 1 + 1, n, none⟩) (by simp; omega) (iv 77)
  have k3 := (bkCell P3.out 1).trans (show _ = some (Value.slice A n c) from rfl)
  have f3 := bkFrozen P3.out 1
  clear s4 f4 k2
  generalize w2.setCell ⟨w.heap.size + 1 + 1, n, none⟩ (iv 77) = w3 at *
  go_upto_region 5 with (fail)
  have P4 := Lib.hid (bkPut P3.out 1 (.slice (some ⟨w.heap.size + 1 + 1, 0, none⟩) n (n + 1)) (S.set1 s A (some ⟨w.heap.size + 1 + 1, 0, none⟩) n c n (n + 1)))
  have Q4 := Lib.hid (bkFar Q3.out (p := ⟨w.heap.size, 1, none⟩) (by simp) (.slice (some ⟨w.heap.size + 1 + 1, 0, none⟩) n (n + 1)))
  have O4 := Lib.hid (bkFar (ownFull O3.out) (p := ⟨w.heap.size, 1, none⟩) (by simp; omega) (.slice (some ⟨w.heap.size + 1 + 1, 0, none⟩) n (n + 1)))
  go_wp2_with (first
    | (refine wpList_load_row rfl 24 (.tmp 1) rfl (w.heap.size) rfl 24 _ (0, 0) _ P4.out Try.underlying24 rfl (S.i24 _ _ _ _) ?_)
    | (refine wpList_store_row rfl 24 (.tmp 2) (.tmp 24) rfl (w.heap.size + 1) (s.cs (some ⟨w.heap.size + 1 + 1, 0, none⟩) n (n + 1)) rfl rfl 24 _ Q4.out (S.i24 _ _ _ _) (S.sz S.zero s none _ 0 0 _ _) (S.one _ _ _ _) ?_))
  refine bodyPost_ret (results_cell_row rfl _ _ (w.heap.size + 1) 24 _ (0, 0) _ rfl (setRow_heap _ _ _ _ _ _ Q4.out) Try.underlying24 rfl (S.i24 _ _ _ _)) rfl ⟨_, rfl, (setRow_other _ _ _ _ (by omega)).trans O4.out, by omega, below_setRow (B3.setCell (by simp) _) (by omega) _⟩
set_option maxHeartbeats 4000000 in
set_option maxRecDepth 100000 in
theorem same_big (A D : Option Addr) (n c d b o b' o' : Nat) (xs : Nat → Int) (hn : n ≤ 20000000000000) (w : World) (hA : DataAt w A n b o xs) (hD : DataAt w D n b' o' xs) :
    Calls Try.prog 30 #[.slice A n c, .slice D n d] w fun e w' => e = .returned (.bool true) ∧ ∃ m, w' = w.drewN m := by
  have HA := Lib.hid hA
  have HD := Lib.hid hD
  have TA := Lib.hid hA.top
  have TD := Lib.hid hD.top
  clear hA hD
  have l0 : (0 : Int) ≤ (n : Int) := by omega
  have e0 : ((n : Int) != (n : Int)) = false := by simp
  go_enter Try.func30, Try.ntmps30
  go_upto_region 4 with (fail)
  go_loopw [13] (fun v wr => ∃ k : Nat, k ≤ n ∧ v = iv k ∧ ∃ m, wr = w.drewN m) (fun v _ => n - (intOf v).toNat)
  case atStart => exact ⟨0, by omega, rfl, 0, rfl⟩
  case round =>
    obtain ⟨k, hk, rfl, m, rfl⟩ := hrel
    by_cases hlt : k < n
    · have tA := TA.out (by omega)
      have tD := TD.out (by omega)
      subst tA tD
      have ha := HA.out.cell k hlt
      have hb := HD.out.cell k hlt
      generalize xs k = x at ha hb
      have h0 : (0 : Int) ≤ (k : Int) := by omega
      have h1 : (k : Int) < (n : Int) := by omega
      have e1 : (x != x) = false := by simp
      go_wp2
      go_quiet (fail)
      go_wp2
      exact ⟨⟨k + 1, by omega, by go_num, _, rfl⟩, by simp [intOf]; omega⟩
    · have h1 : decide ((k : Int) < (n : Int)) = false := decide_eq_false (by omega)
      go_wp2
      go_ret
      exact ⟨rfl, m, rfl⟩
set_option maxHeartbeats 4000000 in
set_option maxRecDepth 100000 in
theorem alike_yes (s : S) (A : Option Addr) (n c : Nat) (D : Option Addr) (d b o b' o' : Nat) (xs : Nat → Int) (hn : n ≤ 20000000000000) (w : World) (hA : DataAt w A n b o xs) (hD : DataAt w D n b' o' xs) :
    Calls Try.prog 33 #[.agg (s.cs A n c), .agg (s.cs D n d)] w fun e w' => e = .returned (.bool true) ∧ Below w.heap.size w w' := by
  have hb : Below w.heap.size w ((w.alloc (Obj.cells (s.cs A n c) 24)).alloc (Obj.cells (s.cs D n d) 24)) := ((Below.refl _ _).alloc (Nat.le_refl _) _).alloc (by simp) _
  have I := Lib.hid (same_big A D n c d b o b' o' xs hn ((w.alloc (Obj.cells (s.cs A n c) 24)).alloc (Obj.cells (s.cs D n d) 24)) (hA.later hb) (hD.later hb))
  have p0 := old2 w (s.cs A n c) (s.cs D n d) 0 (show _ = some (Value.string s.nm) from rfl)
  have q0 := new2 w (s.cs A n c) (s.cs D n d) 0 (show _ = some (Value.string s.nm) from rfl)
  have p1 := old2 w (s.cs A n c) (s.cs D n d) 1 (show _ = some (Value.slice A n c) from rfl)
  have q1 := new2 w (s.cs A n c) (s.cs D n d) 1 (show _ = some (Value.slice D n d) from rfl)
  have p2 := old2 w (s.cs A n c) (s.cs D n d) 2 (show _ = some (iv s.a2) from rfl)
  have q2 := new2 w (s.cs A n c) (s.cs D n d) 2 (show _ = some (iv s.a2) from rfl)
  have p3 := old2 w (s.cs A n c) (s.cs D n d) 3 (show _ = some (iv s.a3) from rfl)
  have q3 := new2 w (s.cs A n c) (s.cs D n d) 3 (show _ = some (iv s.a3) from rfl)
  have p4 := old2 w (s.cs A n c) (s.cs D n d) 4 (show _ = some (iv s.a4) from rfl)
  have q4 := new2 w (s.cs A n c) (s.cs D n d) 4 (show _ = some (iv s.a4) from rfl)
  have p5 := old2 w (s.cs A n c) (s.cs D n d) 5 (show _ = some (iv s.a5) from rfl)
  have q5 := new2 w (s.cs A n c) (s.cs D n d) 5 (show _ = some (iv s.a5) from rfl)
  have p6 := old2 w (s.cs A n c) (s.cs D n d) 6 (show _ = some (iv s.a6) from rfl)
  have q6 := new2 w (s.cs A n c) (s.cs D n d) 6 (show _ = some (iv s.a6) from rfl)
  have p7 := old2 w (s.cs A n c) (s.cs D n d) 7 (show _ = some (iv s.a7) from rfl)
  have q7 := new2 w (s.cs A n c) (s.cs D n d) 7 (show _ = some (iv s.a7) from rfl)
  have p8 := old2 w (s.cs A n c) (s.cs D n d) 8 (show _ = some (iv s.a8) from rfl)
  have q8 := new2 w (s.cs A n c) (s.cs D n d) 8 (show _ = some (iv s.a8) from rfl)
  have p9 := old2 w (s.cs A n c) (s.cs D n d) 9 (show _ = some (iv s.a9) from rfl)
  have q9 := new2 w (s.cs A n c) (s.cs D n d) 9 (show _ = some (iv s.a9) from rfl)
  have p10 := old2 w (s.cs A n c) (s.cs D n d) 10 (show _ = some (iv s.a10) from rfl)
  have q10 := new2 w (s.cs A n c) (s.cs D n d) 10 (show _ = some (iv s.a10) from rfl)
  have p11 := old2 w (s.cs A n c) (s.cs D n d) 11 (show _ = some (iv s.a11) from rfl)
  have q11 := new2 w (s.cs A n c) (s.cs D n d) 11 (show _ = some (iv s.a11) from rfl)
  have p12 := old2 w (s.cs A n c) (s.cs D n d) 12 (show _ = some (iv s.a12) from rfl)
  have q12 := new2 w (s.cs A n c) (s.cs D n d) 12 (show _ = some (iv s.a12) from rfl)
  clear hA hD
  have e2 : (s.a2 == s.a2) = true := by simp
  have e3 : (s.a3 == s.a3) = true := by simp
  have e4 : (s.a4 == s.a4) = true := by simp
  have e5 : (s.a5 == s.a5) = true := by simp
  have e6 : (s.a6 == s.a6) = true := by simp
  have e7 : (s.a7 == s.a7) = true := by simp
  have e8 : (s.a8 == s.a8) = true := by simp
  have e9 : (s.a9 == s.a9) = true := by simp
  have e10 : (s.a10 == s.a10) = true := by simp
  have e11 : (s.a11 == s.a11) = true := by simp
  have e12 : (s.a12 == s.a12) = true := by simp
  go_enter Try.func33, Try.ntmps33
  go_wp2_with (go_at_call 30; (with_reducible refine I.out.mono ?_); rintro e w3 ⟨rfl, m, rfl⟩)
  go_ret
  exact ⟨rfl, bdN hb _⟩
theorem cellBelow {w w' : World} {p : Addr} {v : Value} (h : w.cell? p = some v) (hb : Below w.heap.size w w') : w'.cell? p = some v := (hb.cell (World.block_lt_of_cell? _ _ h)).trans h
set_option maxHeartbeats 16000000 in
set_option maxRecDepth 100000 in
theorem untouched_yes (s : S) (A : Option Addr) (n c b o g : Nat) (xs : Nat → Int) (hn : n ≤ 20000000000000) (w : World) (hA : DataAt w A n b o xs) (hg : w.heap[g]? = some (.cells (rw_ (cpF xs n) (n + 1)).toArray 3 (0, 0))) :
    Calls Try.prog 28 #[.agg (s.cs (some ⟨g, 0, none⟩) n (n + 1)), .agg (s.cs A n c)] w fun e w' => e = .returned (.bool true) ∧ Below w.heap.size w w' := by
  have B0 : Below w.heap.size w ((w.alloc (Obj.cells (s.cs (some ⟨g, 0, none⟩) n (n + 1)) 24)).alloc (Obj.cells (s.cs A n c) 24)) := ((Below.refl _ _).alloc (Nat.le_refl _) _).alloc (by simp) _
  have P0 := Lib.hid (heap_alloc2_old w (Obj.cells (s.cs (some ⟨g, 0, none⟩) n (n + 1)) 24) (Obj.cells (s.cs A n c) 24))
  have Q0 := Lib.hid (heap_alloc2_new w (Obj.cells (s.cs (some ⟨g, 0, none⟩) n (n + 1)) 24) (Obj.cells (s.cs A n c) 24))
  have hG : DataAt w (some ⟨g, 0, none⟩) n g 0 xs := (rowData hg (by omega)).congr fun i hi => by unfold cpF; rw [if_pos hi]
  have hC : w.cell? ⟨g, n, none⟩ = some (iv 77) := (bkCell hg n).trans (by rw [List.getElem?_toArray, rw_at _ (n + 1) n (by omega)]; unfold cpF; rw [if_neg (by omega)])
  have C0 := Lib.hid (cellBelow hC B0)
  have HD := Lib.hid hA
  have HG := Lib.hid hG
  have AQ := Lib.hid fun (W : World) (h : DataAt W (some ⟨g, 0, none⟩) n g 0 xs) (h2 : DataAt W A n b o xs) => alike_yes s (some ⟨g, 0, none⟩) n (n + 1) A c g 0 b o xs hn W h h2
  have wn : wrap64 ((n : Int) + 1) = (n : Int) + 1 := wrap_in (by omega) (by omega)
  have l0 : (0 : Int) ≤ (n : Int) := by omega
  have l1 : (0 : Int) ≤ (n : Int) + 1 := by omega
  have l2 : (n : Int) < (n : Int) + 1 := by omega
  clear hA hG hC hg
  go_enter Try.func28, Try.ntmps28
  go_upto_region 1 with (fail)
  refine start_ (n := 19) (S := fun w' => w'.heap[w.heap.size]? = some (.cells (s.cs (some ⟨g, 0, none⟩) n (n + 1)) 24 (0, 0)) ∧ w'.heap[w.heap.size + 1]? = some (.cells (s.cs A n c) 24 (0, 0)) ∧ w'.cell? ⟨g, n, none⟩ = some (iv 77) ∧ Below w.heap.size w w') (ds := []) #[false, false, false, false, false, false, false, false, false, false, false, false, false, false, false, false, false, false, false] (by kernel_rfl) rfl rfl ⟨P0.out, Q0.out, C0.out, B0.drew⟩ (fun hHeld => ?_)
  refine take_ (i := 0) (N := some 5) (v := ?_) (a' := ?_) #[true, false, false, false, false, false, false, false, false, false, false, false, false, false, false, false, false, false, false] rfl rfl (by kernel_rfl) (fun _ _ _ h => h) (Or.inl ⟨by rfl, ?_⟩) hHeld ?_ ?_
  rotate_left
  · rintro w' ⟨s0, s1, s2, s3⟩
    refine exec_load_row 24 (.tmp 2) ?_ (w.heap.size) ?_ 24 _ _ _ s0 Try.underlying24 rfl (S.i24 _ _ _ _) <;> rfl
  rotate_left
  · simp only [Act.put, List.setIfInBounds_toArray, List.set_cons_zero, List.set_cons_succ, i64_w, i32_w, wn]
    rfl
  refine take_ (i := 1) (N := some 6) (v := ?_) (a' := ?_) #[true, true, false, false, false, false, false, false, false, false, false, false, false, false, false, false, false, false, false] rfl rfl (by kernel_rfl) (fun _ _ _ h => h) (Or.inl ⟨by rfl, ?_⟩) hHeld ?_ ?_
  rotate_left
  · rintro w' ⟨s0, s1, s2, s3⟩
    refine exec_load_row 24 (.tmp 3) ?_ (w.heap.size + 1) ?_ 24 _ _ _ s1 Try.underlying24 rfl (S.i24 _ _ _ _) <;> rfl
  rotate_left
  · simp only [Act.put, List.setIfInBounds_toArray, List.set_cons_zero, List.set_cons_succ, i64_w, i32_w, wn]
    rfl
  refine one_ (i := 2) (N := some 7) #[true, true, true, false, false, false, false, false, false, false, false, false, false, false, false, false, false, false, false] rfl rfl (by kernel_rfl) (by decide) (fun K hK => ?_)
  obtain ⟨s0, s1, s2, s3⟩ := hHeld
  refine goes_ Try.func33 (by kernel_rfl) rfl #[.agg (s.cs (some ⟨g, 0, none⟩) n (n + 1)), .agg (s.cs A n c)] (by rfl) rfl rfl (by simp only [List.map_toArray, List.map_cons, List.map_nil]; rfl) ?_
  with_reducible refine (AQ.out _ (HG.out.later s3) (HD.out.later s3)).mono ?_
  rintro e w4 ⟨rfl, hb4⟩
  refine ⟨_, rfl, ?_⟩
  have t0 := Lib.hid (bkBelow s0 hb4)
  have t1 := Lib.hid (bkBelow s1 hb4)
  have t2 := Lib.hid (cellBelow s2 hb4)
  have t3 := bdT s3 s3.size hb4
  clear s0 s1 s2 s3
  refine hK.out _ _ ⟨t0.out, t1.out, t2.out, t3⟩ (fun hHeld => ?_)
  clear hK K
  refine norm_ (a' := ?_) ?_ ?_
  rotate_left
  · show Act.put _ (some 7) _ = _
    simp only [Act.put, List.setIfInBounds_toArray, List.set_cons_zero, List.set_cons_succ, i64_w, i32_w, wn]
    rfl
  refine pure_ (i := 3) (N := some 8) (v := ?_) (a' := ?_) #[true, true, true, true, false, false, false, false, false, false, false, false, false, false, false, false, false, false, false] rfl rfl (by kernel_rfl) (fun _ _ _ h => h) (Or.inl ⟨by rfl, ?_⟩) ?_ ?_
  rotate_left
  · intro w'
    go_simp
    with_reducible rfl
  rotate_left
  · simp only [Act.put, List.setIfInBounds_toArray, List.set_cons_zero, List.set_cons_succ, i64_w, i32_w, wn]
    rfl
  refine pure_ (i := 4) (N := some 9) (v := ?_) (a' := ?_) #[true, true, true, true, true, false, false, false, false, false, false, false, false, false, false, false, false, false, false] rfl rfl (by kernel_rfl) (fun _ _ _ h => h) (Or.inl ⟨by rfl, ?_⟩) ?_ ?_
  rotate_left
  · intro w'
    go_simp
    with_reducible rfl
  rotate_left
  · simp only [Act.put, List.setIfInBounds_toArray, List.set_cons_zero, List.set_cons_succ, i64_w, i32_w, wn]
    rfl
  refine pure_ (i := 6) (N := some 11) (v := ?_) (a' := ?_) #[true, true, true, true, true, false, true, false, false, false, false, false, false, false, false, false, false, false, false] rfl rfl (by kernel_rfl) (fun _ _ _ h => h) (Or.inl ⟨by rfl, ?_⟩) ?_ ?_
  rotate_left
  · intro w'
    go_simp
    with_reducible rfl
  rotate_left
  · simp only [Act.put, List.setIfInBounds_toArray, List.set_cons_zero, List.set_cons_succ, i64_w, i32_w, wn]
    rfl
  refine pure_ (i := 11) (N := some 16) (v := ?_) (a' := ?_) #[true, true, true, true, true, false, true, false, false, false, false, true, false, false, false, false, false, false, false] rfl rfl (by kernel_rfl) (fun _ _ _ h => h) (Or.inl ⟨by rfl, ?_⟩) ?_ ?_
  rotate_left
  · intro w'
    go_simp
    with_reducible rfl
  rotate_left
  · simp only [Act.put, List.setIfInBounds_toArray, List.set_cons_zero, List.set_cons_succ, i64_w, i32_w, wn]
    rfl
  refine take_ (i := 5) (N := some 10) (v := ?_) (a' := ?_) #[true, true, true, true, true, true, true, false, false, false, false, true, false, false, false, false, false, false, false] rfl rfl (by kernel_rfl) (fun _ _ _ h => h) (Or.inl ⟨by rfl, ?_⟩) hHeld ?_ ?_
  rotate_left
  · rintro w' ⟨s0, s1, s2, s3⟩
    have x1 := (bkCell s0 1).trans (show _ = some (Value.slice (some ⟨g, 0, none⟩) n (n + 1)) from rfl)
    clear s0 s1 s2 s3
    go_simp
    with_reducible rfl
  rotate_left
  · simp only [Act.put, List.setIfInBounds_toArray, List.set_cons_zero, List.set_cons_succ, i64_w, i32_w, wn]
    rfl
  refine take_ (i := 7) (N := some 12) (v := ?_) (a' := ?_) #[true, true, true, true, true, true, true, true, false, false, false, true, false, false, false, false, false, false, false] rfl rfl (by kernel_rfl) (fun _ _ _ h => h) (Or.inl ⟨by rfl, ?_⟩) hHeld ?_ ?_
  rotate_left
  · rintro w' ⟨s0, s1, s2, s3⟩
    have x1 := (bkCell s0 1).trans (show _ = some (Value.slice (some ⟨g, 0, none⟩) n (n + 1)) from rfl)
    clear s0 s1 s2 s3
    go_simp
    with_reducible rfl
  rotate_left
  · simp only [Act.put, List.setIfInBounds_toArray, List.set_cons_zero, List.set_cons_succ, i64_w, i32_w, wn]
    rfl
  refine pure_ (i := 8) (N := some 13) (v := ?_) (a' := ?_) #[true, true, true, true, true, true, true, true, true, false, false, true, false, false, false, false, false, false, false] rfl rfl (by kernel_rfl) (fun _ _ _ h => h) (Or.inl ⟨by rfl, ?_⟩) ?_ ?_
  rotate_left
  · intro w'
    go_simp
    with_reducible rfl
  rotate_left
  · simp only [Act.put, List.setIfInBounds_toArray, List.set_cons_zero, List.set_cons_succ, i64_w, i32_w, wn]
    rfl
  refine pure_ (i := 9) (N := some 14) (v := ?_) (a' := ?_) #[true, true, true, true, true, true, true, true, true, true, false, true, false, false, false, false, false, false, false] rfl rfl (by kernel_rfl) (fun _ _ _ h => h) (Or.inl ⟨by rfl, ?_⟩) ?_ ?_
  rotate_left
  · intro w'
    go_simp
    with_reducible rfl
  rotate_left
  · simp only [Act.put, List.setIfInBounds_toArray, List.set_cons_zero, List.set_cons_succ, i64_w, i32_w, wn]
    rfl
  refine pure_ (i := 10) (N := some 15) (v := ?_) (a' := ?_) #[true, true, true, true, true, true, true, true, true, true, true, true, false, false, false, false, false, false, false] rfl rfl (by kernel_rfl) (fun _ _ _ h => h) (Or.inl ⟨by rfl, ?_⟩) ?_ ?_
  rotate_left
  · intro w'
    go_simp
    with_reducible rfl
  rotate_left
  · simp only [Act.put, List.setIfInBounds_toArray, List.set_cons_zero, List.set_cons_succ, i64_w, i32_w, wn]
    rfl
  refine take_ (i := 12) (N := some 17) (v := ?_) (a' := ?_) #[true, true, true, true, true, true, true, true, true, true, true, true, true, false, false, false, false, false, false] rfl rfl (by kernel_rfl) (fun _ _ _ h => h) (Or.inl ⟨by rfl, ?_⟩) hHeld ?_ ?_
  rotate_left
  · rintro w' ⟨s0, s1, s2, s3⟩
    have x1 := (bkCell s0 1).trans (show _ = some (Value.slice (some ⟨g, 0, none⟩) n (n + 1)) from rfl)
    clear s0 s1 s2 s3
    go_simp
    with_reducible rfl
  rotate_left
  · simp only [Act.put, List.setIfInBounds_toArray, List.set_cons_zero, List.set_cons_succ, i64_w, i32_w, wn]
    rfl
  refine pure_ (i := 13) (N := some 18) (v := ?_) (a' := ?_) #[true, true, true, true, true, true, true, true, true, true, true, true, true, true, false, false, false, false, false] rfl rfl (by kernel_rfl) (fun _ _ _ h => h) (Or.inl ⟨by rfl, ?_⟩) ?_ ?_
  rotate_left
  · intro w'
    go_simp
    with_reducible rfl
  rotate_left
  · simp only [Act.put, List.setIfInBounds_toArray, List.set_cons_zero, List.set_cons_succ, i64_w, i32_w, wn]
    rfl
  refine pure_ (i := 14) (N := some 19) (v := ?_) (a' := ?_) #[true, true, true, true, true, true, true, true, true, true, true, true, true, true, true, false, false, false, false] rfl rfl (by kernel_rfl) (fun _ _ _ h => h) (Or.inl ⟨by rfl, ?_⟩) ?_ ?_
  rotate_left
  · intro w'
    go_simp
    with_reducible rfl
  rotate_left
  · simp only [Act.put, List.setIfInBounds_toArray, List.set_cons_zero, List.set_cons_succ, i64_w, i32_w, wn]
    rfl
  refine take_ (i := 15) (N := some 20) (v := ?_) (a' := ?_) #[true, true, true, true, true, true, true, true, true, true, true, true, true, true, true, true, false, false, false] rfl rfl (by kernel_rfl) (fun _ _ _ h => h) (Or.inl ⟨by rfl, ?_⟩) hHeld ?_ ?_
  rotate_left
  · rintro w' ⟨s0, s1, s2, s3⟩
    clear s0 s1 s3
    go_simp
    with_reducible rfl
  rotate_left
  · simp only [Act.put, List.setIfInBounds_toArray, List.set_cons_zero, List.set_cons_succ, i64_w, i32_w, wn]
    rfl
  refine pure_ (i := 16) (N := some 21) (v := ?_) (a' := ?_) #[true, true, true, true, true, true, true, true, true, true, true, true, true, true, true, true, true, false, false] rfl rfl (by kernel_rfl) (fun _ _ _ h => h) (Or.inl ⟨by rfl, ?_⟩) ?_ ?_
  rotate_left
  · intro w'
    go_simp
    with_reducible rfl
  rotate_left
  · simp only [Act.put, List.setIfInBounds_toArray, List.set_cons_zero, List.set_cons_succ, i64_w, i32_w, wn]
    rfl
  refine pure_ (i := 17) (N := some 22) (v := ?_) (a' := ?_) #[true, true, true, true, true, true, true, true, true, true, true, true, true, true, true, true, true, true, false] rfl rfl (by kernel_rfl) (fun _ _ _ h => h) (Or.inl ⟨by rfl, ?_⟩) ?_ ?_
  rotate_left
  · intro w'
    go_simp
    with_reducible rfl
  rotate_left
  · simp only [Act.put, List.setIfInBounds_toArray, List.set_cons_zero, List.set_cons_succ, i64_w, i32_w, wn]
    rfl
  refine pure_ (i := 18) (N := some 4) (v := ?_) (a' := ?_) #[true, true, true, true, true, true, true, true, true, true, true, true, true, true, true, true, true, true, true] rfl rfl (by kernel_rfl) (fun _ _ _ h => h) (Or.inl ⟨by rfl, ?_⟩) ?_ ?_
  rotate_left
  · intro w'
    go_simp
    with_reducible rfl
  rotate_left
  · simp only [Act.put, List.setIfInBounds_toArray, List.set_cons_zero, List.set_cons_succ, i64_w, i32_w, wn]
    rfl
  refine done_ (by kernel_rfl) ?_
  go_wp2
  go_ret
  exact ⟨rfl, t3⟩
end Go.Proofs.Ytnmoiolddfboiaa.SX

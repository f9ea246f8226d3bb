/- The sum of two samples. -/
import Derived.Test.YtnmoiolddfboiaaTzE
import Derived.Laws.CopyOwn
namespace Go.Proofs.Ytnmoiolddfboiaa.TX
open Go.RowKit Go.Proofs.YtnmoiolddfboiaaW.PrintLast
set_option linter.unusedVariables false
set_option linter.unusedSimpArgs false
section
variable {ops : Array Oper} {rest : List Oper} {o : Oper} {a : Act} {Q : Exit → Act → World → Prop} {w : World}
/-- copy of a slice to the head of a row of one's own -/
theorem wpCopy (hgd : o.guard = none) (d s : Operand) (ho : o.op = .call { callee := .builtin .copy, args := #[d, s], argTypes := #[22, 22] }) (B g N n c b off : Nat) (A : Option Addr) (F xs : Nat → Int)
    (hd : a.eval d = .slice (some ⟨g, 0, none⟩) N N) (hs : a.eval s = .slice A n c) (hown : w.ownsRow B 3 1 (.slice (some ⟨g, 0, none⟩) N N) N (rw_ F N)) (hD : DataAt w A n b off xs) (hn : n ≤ N) (hN : N ≤ 1000000) (hB : B ≤ g)
    (h : ∀ w', w'.ownsRow B 3 1 (.slice (some ⟨g, 0, none⟩) N N) N (rw_ (fun i => if i < n then xs i else F i) N) → Below g w w' → wpList Try.prog ops Q rest (a.put o.dst (goInt n)) w') : wpList Try.prog ops Q (o :: rest) a w := by
  rcases Nat.eq_zero_or_pos n with h0 | h0
  · subst h0
    refine wpList_copy_nothing hgd d s 22 22 ho 3 Try.underlying22 (by kernel_rfl) (some ⟨g, 0, none⟩) A N N 0 c hd hs (by simp) ?_
    exact h w (by simpa using hown) (Below.refl _ _)
  · have hA := hD.top h0
    subst hA
    have hg := ownFull hown
    have hl : (rw_ xs n).length = n := rw_len _ _
    have e : ((rw_ F N).toArray.toList.take 0 ++ (rw_ xs n ++ (rw_ F N).toArray.toList.drop (0 + (rw_ xs n).length))) = rw_ (fun i => if i < n then xs i else F i) N := by
      apply List.ext_getElem?
      intro i
      rw [List.take_zero, List.nil_append, hl, Nat.zero_add]
      rcases Nat.lt_or_ge i n with hi | hi
      · rw [List.getElem?_append_left (by rw [hl]; exact hi), rw_at _ _ _ hi, rw_at _ _ _ (by omega), if_pos hi]
      · rw [List.getElem?_append_right (by rw [hl]; exact hi), hl, List.getElem?_drop, show n + (i - n) = i by omega]
        rcases Nat.lt_or_ge i N with hi2 | hi2
        · rw [show (rw_ F N).toArray.toList = rw_ F N from rfl, rw_at _ _ _ hi2, rw_at _ _ _ hi2, if_neg (by omega)]
        · rw [List.getElem?_eq_none (by rw [show (rw_ F N).toArray.toList = rw_ F N from rfl, rw_len]; exact hi2), List.getElem?_eq_none (by rw [rw_len]; exact hi2)]
    refine wpList_copy_own hgd d s 22 22 ho 3 Try.underlying22 (by kernel_rfl) g 0 N N ⟨b, off, none⟩ n c hd hs (rw_ F N).toArray 3 hg (rw_ xs n) (by rw [hl]; simp [Nat.min_eq_left hn]) (fun j v hj => ?_) (by rw [hl]; simp [rw_len]; omega) (by intro u hu; simp only [rw_, List.mem_map] at hu; obtain ⟨x, _, rfl⟩ := hu; rfl) ?_
    · have hjn : j < n := by have := (List.getElem?_eq_some_iff.1 hj).1; rwa [hl] at this
      rw [rw_at _ _ _ hjn] at hj
      obtain rfl := Option.some.inj hj
      rw [addLit]
      exact hD.cell j hjn
    · rw [e, show goInt (rw_ xs n).length = goInt n by rw [hl]]
      exact h _ (fullOwn (setRow_heap _ _ _ _ _ _ hg) (rw_len _ _) hB hN) (below_setRow (Below.refl _ _) (Nat.le_refl _) _)
end
theorem sum_facts {u k m : Nat} (h : k < m) (hN : (u : Int) + m ≤ 4096) : ((u : Int) + (k : Int)).toNat = u + k ∧ wrap64 ((u : Int) + (k : Int)) = (u : Int) + (k : Int) ∧ 0 ≤ (u : Int) + (k : Int) ∧ (u : Int) + (k : Int) < (u : Int) + (m : Int) := ⟨by omega, by unfold wrap64; omega, by omega, by omega⟩
theorem wrap_sum {a b h : Int} (ha : -h ≤ a ∧ a ≤ h - 1) (hb : -h ≤ b ∧ b ≤ h - 1) (hh : h ≤ 32768) : wrap64 (a + b) = a + b := by unfold wrap64; omega
theorem wrap_succ {k m : Nat} (h : k < m) (hm : (m : Int) ≤ 1000000) : wrap64 ((k : Int) + 1) = (k : Int) + 1 := by unfold wrap64; omega
theorem lt_of_sum {a b N : Nat} {x : Int} (h : x < (a : Int) + (b : Int)) (h2 : a + b ≤ N) : x < (N : Int) := by omega
def mixG (xs ys : Nat → Int) (n m t : Nat) (i : Nat) : Int := (if i < n then xs i else 0) + (if t ≤ i ∧ i < t + m then ys (i - t) else 0)
set_option maxHeartbeats 4000000 in
set_option maxRecDepth 100000 in
theorem mixfn_any (i t m d b' o' gk gq : Nat) (v : Int) (s' : S) (D : Option Addr) (ys : Nat → Int) (W : World) (hi : i ≤ 1000000) (ht : t ≤ 1000000) (hm : m ≤ 1000000) (hv0 : -1000000 ≤ v) (hv1 : v ≤ 1000000) (hy : ∀ j, j < m → -1000000 ≤ ys j ∧ ys j ≤ 1000000)
    (hK : W.heap[gk]? = some (.cells #[iv t] 3 (0, 0))) (hQ : W.heap[gq]? = some (.cells (s'.cs D m d) 24 (0, 0))) (hD : DataAt W D m b' o' ys) :
    Calls Try.prog 103 #[iv i, iv v, .pointer (some ⟨gk, 0, none⟩), .pointer (some ⟨gq, 0, none⟩)] W fun e w' => e = .returned (iv (v + if t ≤ i ∧ i < t + m then ys (i - t) else 0)) ∧ Below W.heap.size W w' := by
  have k0 := (bkCell hK 0).trans (show _ = some (iv t) from rfl)
  have q1 := (bkCell hQ 1).trans (show _ = some (Value.slice D m d) from rfl)
  have HD := Lib.hid hD
  have TD := Lib.hid hD.top
  have HY := Lib.hid hy
  clear hK hQ hD hy
  by_cases hin : t ≤ i ∧ i < t + m
  · rw [if_pos hin]
    have tD := TD.out (by omega)
    subst tD
    have y0 := HY.out (i - t) (by omega)
    have x0 := HD.out.cell (i - t) (by omega)
    have j0 : (0 : Int) ≤ (i : Int) - t := by omega
    have j1 : (i : Int) - t ≤ (m : Int) - 1 := by omega
    have j2 : (i : Int) - t < (m : Int) := by omega
    have j3 : (t : Int) ≤ (i : Int) := by omega
    have tn : ((i : Int) - t).toNat = i - t := by omega
    have HI := Lib.hid hin
    clear hin
    generalize ys (i - t) = y at y0 x0 ⊢
    go_enter Try.func103, Try.ntmps103
    go_wp2_with (go_at_call 87; (with_reducible refine (in_yes _ _ _ _ j0 j1).mono ?_); rintro e w3 ⟨rfl, rfl⟩)
    go_ret
    exact ⟨rfl, Below.refl _ _⟩
  · rw [if_neg hin, Int.add_zero]
    have j0 : (i : Int) - t < 0 ∨ (m : Int) - 1 < (i : Int) - t := by omega
    clear hin
    have J := Lib.hid j0
    clear j0
    go_enter Try.func103, Try.ntmps103
    go_wp2_with (go_at_call 87; (with_reducible refine (in_no _ _ _ _ J.out).mono ?_); rintro e w3 ⟨rfl, rfl⟩)
    go_ret
    exact ⟨rfl, Below.refl _ _⟩
set_option maxHeartbeats 16000000 in
set_option maxRecDepth 100000 in
theorem mix_bad1 (s s' : S) (A D : Option Addr) (n c m d b o b' o' : Nat) (xs ys : Nat → Int) (w : World) (hA : DataAt w A n b o xs) (hD : DataAt w D m b' o' ys) (hn : (n : Int) ≤ 1000000) (hm : (m : Int) ≤ 1000000) (hc : n ≤ c) (hd : m ≤ d) (t : Int) (hva : vS s n xs = false) :
    Calls Try.prog 55 #[.agg (s.cs A n c), .agg (s'.cs D m d), iv t] w fun e w' => e = .returned (.tuple #[.agg (S.zero.cs none 0 0), iv 1]) ∧ Below w.heap.size w w' := by
  have hB0 : Below w.heap.size w ((((w.alloc (Obj.cells (s.cs A n c) 24)).alloc (Obj.cells (s'.cs D m d) 24)).alloc (Obj.cells #[iv t] 3)).alloc (Obj.cells #[Value.string ⟨#[]⟩, Value.slice none 0 0, iv 0, iv 0, iv 0, iv 0, iv 0, iv 0, iv 0, iv 0, iv 0, iv 0, iv 0] 24)) := ((((Below.refl _ _).alloc (Nat.le_refl _) _).alloc (by simp) _).alloc (by simp; omega) _).alloc (by simp; omega) _
  have P0 := Lib.hid (al4a w (Obj.cells (s.cs A n c) 24) (Obj.cells (s'.cs D m d) 24) (Obj.cells #[iv t] 3) (Obj.cells #[Value.string ⟨#[]⟩, Value.slice none 0 0, iv 0, iv 0, iv 0, iv 0, iv 0, iv 0, iv 0, iv 0, iv 0, iv 0, iv 0] 24))
  have Q0 := Lib.hid (al4b w (Obj.cells (s.cs A n c) 24) (Obj.cells (s'.cs D m d) 24) (Obj.cells #[iv t] 3) (Obj.cells #[Value.string ⟨#[]⟩, Value.slice none 0 0, iv 0, iv 0, iv 0, iv 0, iv 0, iv 0, iv 0, iv 0, iv 0, iv 0, iv 0] 24))
  have K0 := Lib.hid (al4c w (Obj.cells (s.cs A n c) 24) (Obj.cells (s'.cs D m d) 24) (Obj.cells #[iv t] 3) (Obj.cells #[Value.string ⟨#[]⟩, Value.slice none 0 0, iv 0, iv 0, iv 0, iv 0, iv 0, iv 0, iv 0, iv 0, iv 0, iv 0, iv 0] 24))
  have R0 := Lib.hid (al4d w (Obj.cells (s.cs A n c) 24) (Obj.cells (s'.cs D m d) 24) (Obj.cells #[iv t] 3) (Obj.cells #[Value.string ⟨#[]⟩, Value.slice none 0 0, iv 0, iv 0, iv 0, iv 0, iv 0, iv 0, iv 0, iv 0, iv 0, iv 0, iv 0] 24))
  have HD := Lib.hid hA
  have HE := Lib.hid hD
  clear hA hD
  have l0 : (0 : Int) ≤ (n : Int) := by omega
  have l1 : (0 : Int) ≤ (m : Int) := by omega
  go_enter Try.func55, Try.ntmps55
  go_wp2_with (first
    | (refine wpList_load_row rfl 24 (.tmp 3) rfl (w.heap.size) rfl 24 _ (0, 0) _ P0.out Try.underlying24 rfl (S.i24 _ _ _ _) ?_)
    | (go_at_call 15; (with_reducible refine (valid_any s A n c b o xs (by omega) hc _ (HD.out.later hB0)).mono ?_); rintro e w1 ⟨rfl, hb1⟩; have P1 := Lib.hid (bkBelow P0.out hb1); have Q1 := Lib.hid (bkBelow Q0.out hb1); have K1 := Lib.hid (bkBelow K0.out hb1); have R1 := Lib.hid (bkBelow R0.out hb1); have B1 := bdT hB0 hB0.size hb1; simp only [hva] )
    | (refine wpBuild0 rfl 24 rfl (S.zero.cs none 0 0) built24 ?_)
    | (refine wpList_store_row rfl 24 (.tmp 6) (.tmp 24) rfl (w.heap.size + 1 + 1 + 1) (S.zero.cs none 0 0) rfl rfl 24 _ R1.out (S.i24 _ _ _ _) (S.sz S.zero S.zero none none 0 0 0 0) (S.one _ _ _ _) ?_))
  refine bodyPost_ret (res_ct rfl _ _ (w.heap.size + 1 + 1 + 1) 24 _ (0, 0) _ rfl (setRow_heap _ _ _ _ _ _ R1.out) Try.underlying24 rfl (S.i24 _ _ _ _)) rfl ⟨rfl, below_setRow B1 (by omega) _⟩
set_option maxHeartbeats 16000000 in
set_option maxRecDepth 100000 in
theorem mix_bad2 (s s' : S) (A D : Option Addr) (n c m d b o b' o' : Nat) (xs ys : Nat → Int) (w : World) (hA : DataAt w A n b o xs) (hD : DataAt w D m b' o' ys) (hn : (n : Int) ≤ 1000000) (hm : (m : Int) ≤ 1000000) (hc : n ≤ c) (hd : m ≤ d) (t : Int) (hva : vS s n xs = true) (hvb : vS s' m ys = false) :
    Calls Try.prog 55 #[.agg (s.cs A n c), .agg (s'.cs D m d), iv t] w fun e w' => e = .returned (.tuple #[.agg (S.zero.cs none 0 0), iv 1]) ∧ Below w.heap.size w w' := by
  have hB0 : Below w.heap.size w ((((w.alloc (Obj.cells (s.cs A n c) 24)).alloc (Obj.cells (s'.cs D m d) 24)).alloc (Obj.cells #[iv t] 3)).alloc (Obj.cells #[Value.string ⟨#[]⟩, Value.slice none 0 0, iv 0, iv 0, iv 0, iv 0, iv 0, iv 0, iv 0, iv 0, iv 0, iv 0, iv 0] 24)) := ((((Below.refl _ _).alloc (Nat.le_refl _) _).alloc (by simp) _).alloc (by simp; omega) _).alloc (by simp; omega) _
  have P0 := Lib.hid (al4a w (Obj.cells (s.cs A n c) 24) (Obj.cells (s'.cs D m d) 24) (Obj.cells #[iv t] 3) (Obj.cells #[Value.string ⟨#[]⟩, Value.slice none 0 0, iv 0, iv 0, iv 0, iv 0, iv 0, iv 0, iv 0, iv 0, iv 0, iv 0, iv 0] 24))
  have Q0 := Lib.hid (al4b w (Obj.cells (s.cs A n c) 24) (Obj.cells (s'.cs D m d) 24) (Obj.cells #[iv t] 3) (Obj.cells #[Value.string ⟨#[]⟩, Value.slice none 0 0, iv 0, iv 0, iv 0, iv 0, iv 0, iv 0, iv 0, iv 0, iv 0, iv 0, iv 0] 24))
  have K0 := Lib.hid (al4c w (Obj.cells (s.cs A n c) 24) (Obj.cells (s'.cs D m d) 24) (Obj.cells #[iv t] 3) (Obj.cells #[Value.string ⟨#[]⟩, Value.slice none 0 0, iv 0, iv 0, iv 0, iv 0, iv 0, iv 0, iv 0, iv 0, iv 0, iv 0, iv 0] 24))
  have R0 := Lib.hid (al4d w (Obj.cells (s.cs A n c) 24) (Obj.cells (s'.cs D m d) 24) (Obj.cells #[iv t] 3) (Obj.cells #[Value.string ⟨#[]⟩, Value.slice none 0 0, iv 0, iv 0, iv 0, iv 0, iv 0, iv 0, iv 0, iv 0, iv 0, iv 0, iv 0] 24))
  have HD := Lib.hid hA
  have HE := Lib.hid hD
  clear hA hD
  have l0 : (0 : Int) ≤ (n : Int) := by omega
  have l1 : (0 : Int) ≤ (m : Int) := by omega
  go_enter Try.func55, Try.ntmps55
  go_wp2_with (first
    | (refine wpList_load_row rfl 24 (.tmp 3) rfl (w.heap.size) rfl 24 _ (0, 0) _ P0.out Try.underlying24 rfl (S.i24 _ _ _ _) ?_)
    | (go_at_call 15; (with_reducible refine (valid_any s A n c b o xs (by omega) hc _ (HD.out.later hB0)).mono ?_); rintro e w1 ⟨rfl, hb1⟩; have P1 := Lib.hid (bkBelow P0.out hb1); have Q1 := Lib.hid (bkBelow Q0.out hb1); have K1 := Lib.hid (bkBelow K0.out hb1); have R1 := Lib.hid (bkBelow R0.out hb1); have B1 := bdT hB0 hB0.size hb1; simp only [hva] )
    | (refine gdOn (by rfl) ?_; refine wpList_load_row rfl 24 (.tmp 4) rfl (w.heap.size + 1) rfl 24 _ (0, 0) _ Q1.out Try.underlying24 rfl (S.i24 _ _ _ _) ?_)
    | (go_at_call 15; (with_reducible refine (valid_any s' D m d b' o' ys (by omega) hd _ (HE.out.later B1)).mono ?_); rintro e w2 ⟨rfl, hb2⟩; have P2 := Lib.hid (bkBelow P1.out hb2); have Q2 := Lib.hid (bkBelow Q1.out hb2); have K2 := Lib.hid (bkBelow K1.out hb2); have R2 := Lib.hid (bkBelow R1.out hb2); have B2 := bdT B1 B1.size hb2; simp only [hvb] )
    | (refine wpBuild0 rfl 24 rfl (S.zero.cs none 0 0) built24 ?_)
    | (refine wpList_store_row rfl 24 (.tmp 6) (.tmp 24) rfl (w.heap.size + 1 + 1 + 1) (S.zero.cs none 0 0) rfl rfl 24 _ R2.out (S.i24 _ _ _ _) (S.sz S.zero S.zero none none 0 0 0 0) (S.one _ _ _ _) ?_))
  refine bodyPost_ret (res_ct rfl _ _ (w.heap.size + 1 + 1 + 1) 24 _ (0, 0) _ rfl (setRow_heap _ _ _ _ _ _ R2.out) Try.underlying24 rfl (S.i24 _ _ _ _)) rfl ⟨rfl, below_setRow B2 (by omega) _⟩
set_option maxHeartbeats 16000000 in
set_option maxRecDepth 100000 in
theorem mix_bad3 (s s' : S) (A D : Option Addr) (n c m d b o b' o' : Nat) (xs ys : Nat → Int) (w : World) (hA : DataAt w A n b o xs) (hD : DataAt w D m b' o' ys) (hn : (n : Int) ≤ 1000000) (hm : (m : Int) ≤ 1000000) (hc : n ≤ c) (hd : m ≤ d) (t : Int) (hva : vS s n xs = true) (hvb : vS s' m ys = true) (hbt : s'.a2 ≠ s.a2) :
    Calls Try.prog 55 #[.agg (s.cs A n c), .agg (s'.cs D m d), iv t] w fun e w' => e = .returned (.tuple #[.agg (S.zero.cs none 0 0), iv 1]) ∧ Below w.heap.size w w' := by
  have hB0 : Below w.heap.size w ((((w.alloc (Obj.cells (s.cs A n c) 24)).alloc (Obj.cells (s'.cs D m d) 24)).alloc (Obj.cells #[iv t] 3)).alloc (Obj.cells #[Value.string ⟨#[]⟩, Value.slice none 0 0, iv 0, iv 0, iv 0, iv 0, iv 0, iv 0, iv 0, iv 0, iv 0, iv 0, iv 0] 24)) := ((((Below.refl _ _).alloc (Nat.le_refl _) _).alloc (by simp) _).alloc (by simp; omega) _).alloc (by simp; omega) _
  have P0 := Lib.hid (al4a w (Obj.cells (s.cs A n c) 24) (Obj.cells (s'.cs D m d) 24) (Obj.cells #[iv t] 3) (Obj.cells #[Value.string ⟨#[]⟩, Value.slice none 0 0, iv 0, iv 0, iv 0, iv 0, iv 0, iv 0, iv 0, iv 0, iv 0, iv 0, iv 0] 24))
  have Q0 := Lib.hid (al4b w (Obj.cells (s.cs A n c) 24) (Obj.cells (s'.cs D m d) 24) (Obj.cells #[iv t] 3) (Obj.cells #[Value.string ⟨#[]⟩, Value.slice none 0 0, iv 0, iv 0, iv 0, iv 0, iv 0, iv 0, iv 0, iv 0, iv 0, iv 0, iv 0] 24))
  have K0 := Lib.hid (al4c w (Obj.cells (s.cs A n c) 24) (Obj.cells (s'.cs D m d) 24) (Obj.cells #[iv t] 3) (Obj.cells #[Value.string ⟨#[]⟩, Value.slice none 0 0, iv 0, iv 0, iv 0, iv 0, iv 0, iv 0, iv 0, iv 0, iv 0, iv 0, iv 0] 24))
  have R0 := Lib.hid (al4d w (Obj.cells (s.cs A n c) 24) (Obj.cells (s'.cs D m d) 24) (Obj.cells #[iv t] 3) (Obj.cells #[Value.string ⟨#[]⟩, Value.slice none 0 0, iv 0, iv 0, iv 0, iv 0, iv 0, iv 0, iv 0, iv 0, iv 0, iv 0, iv 0] 24))
  have HD := Lib.hid hA
  have HE := Lib.hid hD
  clear hA hD
  have l0 : (0 : Int) ≤ (n : Int) := by omega
  have l1 : (0 : Int) ≤ (m : Int) := by omega
  have e0 : (s.a2 != s'.a2) = true := by simp [Ne.symm hbt]
  go_enter Try.func55, Try.ntmps55
  go_wp2_with (first
    | (refine wpList_load_row rfl 24 (.tmp 3) rfl (w.heap.size) rfl 24 _ (0, 0) _ P0.out Try.underlying24 rfl (S.i24 _ _ _ _) ?_)
    | (go_at_call 15; (with_reducible refine (valid_any s A n c b o xs (by omega) hc _ (HD.out.later hB0)).mono ?_); rintro e w1 ⟨rfl, hb1⟩; have P1 := Lib.hid (bkBelow P0.out hb1); have Q1 := Lib.hid (bkBelow Q0.out hb1); have K1 := Lib.hid (bkBelow K0.out hb1); have R1 := Lib.hid (bkBelow R0.out hb1); have B1 := bdT hB0 hB0.size hb1; simp only [hva] )
    | (refine gdOn (by rfl) ?_; refine wpList_load_row rfl 24 (.tmp 4) rfl (w.heap.size + 1) rfl 24 _ (0, 0) _ Q1.out Try.underlying24 rfl (S.i24 _ _ _ _) ?_)
    | (go_at_call 15; (with_reducible refine (valid_any s' D m d b' o' ys (by omega) hd _ (HE.out.later B1)).mono ?_); rintro e w2 ⟨rfl, hb2⟩; have P2 := Lib.hid (bkBelow P1.out hb2); have Q2 := Lib.hid (bkBelow Q1.out hb2); have K2 := Lib.hid (bkBelow K1.out hb2); have R2 := Lib.hid (bkBelow R1.out hb2); have B2 := bdT B1 B1.size hb2; simp only [hvb]; have p1 := (bkCell P2.out 1).trans (show _ = some (Value.slice A n c) from rfl); have p2 := (bkCell P2.out 2).trans (show _ = some (iv s.a2) from rfl); have q1 := (bkCell Q2.out 1).trans (show _ = some (Value.slice D m d) from rfl); have q2 := (bkCell Q2.out 2).trans (show _ = some (iv s'.a2) from rfl); have k0 := (bkCell K2.out 0).trans (show _ = some (iv t) from rfl))
    | (refine wpBuild0 rfl 24 rfl (S.zero.cs none 0 0) built24 ?_)
    | (refine wpList_store_row rfl 24 (.tmp 6) (.tmp 24) rfl (w.heap.size + 1 + 1 + 1) (S.zero.cs none 0 0) rfl rfl 24 _ R2.out (S.i24 _ _ _ _) (S.sz S.zero S.zero none none 0 0 0 0) (S.one _ _ _ _) ?_))
  refine bodyPost_ret (res_ct rfl _ _ (w.heap.size + 1 + 1 + 1) 24 _ (0, 0) _ rfl (setRow_heap _ _ _ _ _ _ R2.out) Try.underlying24 rfl (S.i24 _ _ _ _)) rfl ⟨rfl, below_setRow B2 (by omega) _⟩
set_option maxHeartbeats 16000000 in
set_option maxRecDepth 100000 in
theorem mix_range (s s' : S) (A D : Option Addr) (n c m d b o b' o' : Nat) (xs ys : Nat → Int) (w : World) (hA : DataAt w A n b o xs) (hD : DataAt w D m b' o' ys) (hn : (n : Int) ≤ 1000000) (hm : (m : Int) ≤ 1000000) (hc : n ≤ c) (hd : m ≤ d) (t : Int) (hva : vS s n xs = true) (hvb : vS s' m ys = true) (hbt : s'.a2 = s.a2) (ht : t < 0 ∨ (n : Int) < t) :
    Calls Try.prog 55 #[.agg (s.cs A n c), .agg (s'.cs D m d), iv t] w fun e w' => e = .returned (.tuple #[.agg (S.zero.cs none 0 0), iv 5]) ∧ Below w.heap.size w w' := by
  have hB0 : Below w.heap.size w ((((w.alloc (Obj.cells (s.cs A n c) 24)).alloc (Obj.cells (s'.cs D m d) 24)).alloc (Obj.cells #[iv t] 3)).alloc (Obj.cells #[Value.string ⟨#[]⟩, Value.slice none 0 0, iv 0, iv 0, iv 0, iv 0, iv 0, iv 0, iv 0, iv 0, iv 0, iv 0, iv 0] 24)) := ((((Below.refl _ _).alloc (Nat.le_refl _) _).alloc (by simp) _).alloc (by simp; omega) _).alloc (by simp; omega) _
  have P0 := Lib.hid (al4a w (Obj.cells (s.cs A n c) 24) (Obj.cells (s'.cs D m d) 24) (Obj.cells #[iv t] 3) (Obj.cells #[Value.string ⟨#[]⟩, Value.slice none 0 0, iv 0, iv 0, iv 0, iv 0, iv 0, iv 0, iv 0, iv 0, iv 0, iv 0, iv 0] 24))
  have Q0 := Lib.hid (al4b w (Obj.cells (s.cs A n c) 24) (Obj.cells (s'.cs D m d) 24) (Obj.cells #[iv t] 3) (Obj.cells #[Value.string ⟨#[]⟩, Value.slice none 0 0, iv 0, iv 0, iv 0, iv 0, iv 0, iv 0, iv 0, iv 0, iv 0, iv 0, iv 0] 24))
  have K0 := Lib.hid (al4c w (Obj.cells (s.cs A n c) 24) (Obj.cells (s'.cs D m d) 24) (Obj.cells #[iv t] 3) (Obj.cells #[Value.string ⟨#[]⟩, Value.slice none 0 0, iv 0, iv 0, iv 0, iv 0, iv 0, iv 0, iv 0, iv 0, iv 0, iv 0, iv 0] 24))
  have R0 := Lib.hid (al4d w (Obj.cells (s.cs A n c) 24) (Obj.cells (s'.cs D m d) 24) (Obj.cells #[iv t] 3) (Obj.cells #[Value.string ⟨#[]⟩, Value.slice none 0 0, iv 0, iv 0, iv 0, iv 0, iv 0, iv 0, iv 0, iv 0, iv 0, iv 0, iv 0] 24))
  have HD := Lib.hid hA
  have HE := Lib.hid hD
  clear hA hD
  have l0 : (0 : Int) ≤ (n : Int) := by omega
  have l1 : (0 : Int) ≤ (m : Int) := by omega
  have e0 : (s.a2 != s.a2) = false := by simp
  go_enter Try.func55, Try.ntmps55
  go_upto_region 3 with (first
    | (refine wpList_load_row rfl 24 (.tmp 3) rfl (w.heap.size) rfl 24 _ (0, 0) _ P0.out Try.underlying24 rfl (S.i24 _ _ _ _) ?_)
    | (go_at_call 15; (with_reducible refine (valid_any s A n c b o xs (by omega) hc _ (HD.out.later hB0)).mono ?_); rintro e w1 ⟨rfl, hb1⟩; have P1 := Lib.hid (bkBelow P0.out hb1); have Q1 := Lib.hid (bkBelow Q0.out hb1); have K1 := Lib.hid (bkBelow K0.out hb1); have R1 := Lib.hid (bkBelow R0.out hb1); have B1 := bdT hB0 hB0.size hb1; simp only [hva] )
    | (refine gdOn (by rfl) ?_; refine wpList_load_row rfl 24 (.tmp 4) rfl (w.heap.size + 1) rfl 24 _ (0, 0) _ Q1.out Try.underlying24 rfl (S.i24 _ _ _ _) ?_)
    | (go_at_call 15; (with_reducible refine (valid_any s' D m d b' o' ys (by omega) hd _ (HE.out.later B1)).mono ?_); rintro e w2 ⟨rfl, hb2⟩; have P2 := Lib.hid (bkBelow P1.out hb2); have Q2 := Lib.hid (bkBelow Q1.out hb2); have K2 := Lib.hid (bkBelow K1.out hb2); have R2 := Lib.hid (bkBelow R1.out hb2); have B2 := bdT B1 B1.size hb2; simp only [hvb]; have p1 := (bkCell P2.out 1).trans (show _ = some (Value.slice A n c) from rfl); have p2 := (bkCell P2.out 2).trans (show _ = some (iv s.a2) from rfl); have q1 := (bkCell Q2.out 1).trans (show _ = some (Value.slice D m d) from rfl); have q2 := (bkCell Q2.out 2).trans (show _ = some (iv s'.a2) from rfl); rw [hbt] at q2; have k0 := (bkCell K2.out 0).trans (show _ = some (iv t) from rfl)))
  go_wp2_with (first
    | (go_at_call 87; (with_reducible refine (in_no _ _ _ _ ht).mono ?_); rintro e w5 ⟨rfl, rfl⟩)
    | (refine wpBuild0 rfl 24 rfl (S.zero.cs none 0 0) built24 ?_)
    | (refine wpList_store_row rfl 24 (.tmp 6) (.tmp 31) rfl (w.heap.size + 1 + 1 + 1) (S.zero.cs none 0 0) rfl rfl 24 _ R2.out (S.i24 _ _ _ _) (S.sz S.zero S.zero none none 0 0 0 0) (S.one _ _ _ _) ?_))
  refine bodyPost_ret (res_ct rfl _ _ (w.heap.size + 1 + 1 + 1) 24 _ (0, 0) _ rfl (setRow_heap _ _ _ _ _ _ R2.out) Try.underlying24 rfl (S.i24 _ _ _ _)) rfl ⟨rfl, below_setRow B2 (by omega) _⟩
set_option maxHeartbeats 16000000 in
set_option maxRecDepth 100000 in
theorem mix_limit (s s' : S) (A D : Option Addr) (n c m d b o b' o' : Nat) (xs ys : Nat → Int) (w : World) (hA : DataAt w A n b o xs) (hD : DataAt w D m b' o' ys) (hn : (n : Int) ≤ 1000000) (hm : (m : Int) ≤ 1000000) (hc : n ≤ c) (hd : m ≤ d) (t : Int) (hva : vS s n xs = true) (hvb : vS s' m ys = true) (hbt : s'.a2 = s.a2) (ht0 : 0 ≤ t) (ht1 : t ≤ n) (hN : 4096 < t + m) :
    Calls Try.prog 55 #[.agg (s.cs A n c), .agg (s'.cs D m d), iv t] w fun e w' => e = .returned (.tuple #[.agg (S.zero.cs none 0 0), iv 4]) ∧ Below w.heap.size w w' := by
  have hB0 : Below w.heap.size w ((((w.alloc (Obj.cells (s.cs A n c) 24)).alloc (Obj.cells (s'.cs D m d) 24)).alloc (Obj.cells #[iv t] 3)).alloc (Obj.cells #[Value.string ⟨#[]⟩, Value.slice none 0 0, iv 0, iv 0, iv 0, iv 0, iv 0, iv 0, iv 0, iv 0, iv 0, iv 0, iv 0] 24)) := ((((Below.refl _ _).alloc (Nat.le_refl _) _).alloc (by simp) _).alloc (by simp; omega) _).alloc (by simp; omega) _
  have P0 := Lib.hid (al4a w (Obj.cells (s.cs A n c) 24) (Obj.cells (s'.cs D m d) 24) (Obj.cells #[iv t] 3) (Obj.cells #[Value.string ⟨#[]⟩, Value.slice none 0 0, iv 0, iv 0, iv 0, iv 0, iv 0, iv 0, iv 0, iv 0, iv 0, iv 0, iv 0] 24))
  have Q0 := Lib.hid (al4b w (Obj.cells (s.cs A n c) 24) (Obj.cells (s'.cs D m d) 24) (Obj.cells #[iv t] 3) (Obj.cells #[Value.string ⟨#[]⟩, Value.slice none 0 0, iv 0, iv 0, iv 0, iv 0, iv 0, iv 0, iv 0, iv 0, iv 0, iv 0, iv 0] 24))
  have K0 := Lib.hid (al4c w (Obj.cells (s.cs A n c) 24) (Obj.cells (s'.cs D m d) 24) (Obj.cells #[iv t] 3) (Obj.cells #[Value.string ⟨#[]⟩, Value.slice none 0 0, iv 0, iv 0, iv 0, iv 0, iv 0, iv 0, iv 0, iv 0, iv 0, iv 0, iv 0] 24))
  have R0 := Lib.hid (al4d w (Obj.cells (s.cs A n c) 24) (Obj.cells (s'.cs D m d) 24) (Obj.cells #[iv t] 3) (Obj.cells #[Value.string ⟨#[]⟩, Value.slice none 0 0, iv 0, iv 0, iv 0, iv 0, iv 0, iv 0, iv 0, iv 0, iv 0, iv 0, iv 0] 24))
  have HD := Lib.hid hA
  have HE := Lib.hid hD
  clear hA hD
  have l0 : (0 : Int) ≤ (n : Int) := by omega
  have l1 : (0 : Int) ≤ (m : Int) := by omega
  have e0 : (s.a2 != s.a2) = false := by simp
  go_enter Try.func55, Try.ntmps55
  go_upto_region 3 with (first
    | (refine wpList_load_row rfl 24 (.tmp 3) rfl (w.heap.size) rfl 24 _ (0, 0) _ P0.out Try.underlying24 rfl (S.i24 _ _ _ _) ?_)
    | (go_at_call 15; (with_reducible refine (valid_any s A n c b o xs (by omega) hc _ (HD.out.later hB0)).mono ?_); rintro e w1 ⟨rfl, hb1⟩; have P1 := Lib.hid (bkBelow P0.out hb1); have Q1 := Lib.hid (bkBelow Q0.out hb1); have K1 := Lib.hid (bkBelow K0.out hb1); have R1 := Lib.hid (bkBelow R0.out hb1); have B1 := bdT hB0 hB0.size hb1; simp only [hva] )
    | (refine gdOn (by rfl) ?_; refine wpList_load_row rfl 24 (.tmp 4) rfl (w.heap.size + 1) rfl 24 _ (0, 0) _ Q1.out Try.underlying24 rfl (S.i24 _ _ _ _) ?_)
    | (go_at_call 15; (with_reducible refine (valid_any s' D m d b' o' ys (by omega) hd _ (HE.out.later B1)).mono ?_); rintro e w2 ⟨rfl, hb2⟩; have P2 := Lib.hid (bkBelow P1.out hb2); have Q2 := Lib.hid (bkBelow Q1.out hb2); have K2 := Lib.hid (bkBelow K1.out hb2); have R2 := Lib.hid (bkBelow R1.out hb2); have B2 := bdT B1 B1.size hb2; simp only [hvb]; have p1 := (bkCell P2.out 1).trans (show _ = some (Value.slice A n c) from rfl); have p2 := (bkCell P2.out 2).trans (show _ = some (iv s.a2) from rfl); have q1 := (bkCell Q2.out 1).trans (show _ = some (Value.slice D m d) from rfl); have q2 := (bkCell Q2.out 2).trans (show _ = some (iv s'.a2) from rfl); rw [hbt] at q2; have k0 := (bkCell K2.out 0).trans (show _ = some (iv t) from rfl)))
  go_wp2_with (first
    | (go_at_call 87; (with_reducible refine (in_yes _ _ _ _ ht0 ht1).mono ?_); rintro e w5 ⟨rfl, rfl⟩)
    | (refine wpBuild0 rfl 24 rfl (S.zero.cs none 0 0) built24 ?_)
    | (refine wpList_store_row rfl 24 (.tmp 6) (.tmp 38) rfl (w.heap.size + 1 + 1 + 1) (S.zero.cs none 0 0) rfl rfl 24 _ R2.out (S.i24 _ _ _ _) (S.sz S.zero S.zero none none 0 0 0 0) (S.one _ _ _ _) ?_))
  refine bodyPost_ret (res_ct rfl _ _ (w.heap.size + 1 + 1 + 1) 24 _ (0, 0) _ rfl (setRow_heap _ _ _ _ _ _ R2.out) Try.underlying24 rfl (S.i24 _ _ _ _)) rfl ⟨rfl, below_setRow B2 (by omega) _⟩
set_option maxHeartbeats 16000000 in
set_option maxRecDepth 100000 in
theorem mix_okA (s s' : S) (A D : Option Addr) (n c m d b o b' o' : Nat) (xs ys : Nat → Int) (w : World) (hA : DataAt w A n b o xs) (hD : DataAt w D m b' o' ys) (hn : (n : Int) ≤ 1000000) (hm : (m : Int) ≤ 1000000) (hc : n ≤ c) (hd : m ≤ d) (u : Nat) (h : Int) (hb : Bits s.a2 h) (hx : ∀ i, i < n → -h ≤ xs i ∧ xs i ≤ h - 1) (hy : ∀ i, i < m → -h ≤ ys i ∧ ys i ≤ h - 1) (hva : vS s n xs = true) (hvb : vS s' m ys = true) (hbt : s'.a2 = s.a2) (ht1 : u ≤ n) (hN : (u : Int) + m ≤ 4096) (hn4 : (n : Int) ≤ 4096) (N : Nat) (hNN : N = if n < u + m then u + m else n) (hlt : n < u + m) :
    Calls Try.prog 55 #[.agg (s.cs A n c), .agg (s'.cs D m d), iv u] w fun e w' => ∃ A' c' b o, e = .returned (.tuple #[.agg (s.cs A' N c'), iv 0]) ∧ DataAt w' A' N b o (fun i => clp h (mixG xs ys n m u i)) ∧ Below w.heap.size w w' := by
  have hB0 : Below w.heap.size w ((((w.alloc (Obj.cells (s.cs A n c) 24)).alloc (Obj.cells (s'.cs D m d) 24)).alloc (Obj.cells #[iv u] 3)).alloc (Obj.cells #[Value.string ⟨#[]⟩, Value.slice none 0 0, iv 0, iv 0, iv 0, iv 0, iv 0, iv 0, iv 0, iv 0, iv 0, iv 0, iv 0] 24)) := ((((Below.refl _ _).alloc (Nat.le_refl _) _).alloc (by simp) _).alloc (by simp; omega) _).alloc (by simp; omega) _
  have P0 := Lib.hid (al4a w (Obj.cells (s.cs A n c) 24) (Obj.cells (s'.cs D m d) 24) (Obj.cells #[iv u] 3) (Obj.cells #[Value.string ⟨#[]⟩, Value.slice none 0 0, iv 0, iv 0, iv 0, iv 0, iv 0, iv 0, iv 0, iv 0, iv 0, iv 0, iv 0] 24))
  have Q0 := Lib.hid (al4b w (Obj.cells (s.cs A n c) 24) (Obj.cells (s'.cs D m d) 24) (Obj.cells #[iv u] 3) (Obj.cells #[Value.string ⟨#[]⟩, Value.slice none 0 0, iv 0, iv 0, iv 0, iv 0, iv 0, iv 0, iv 0, iv 0, iv 0, iv 0, iv 0] 24))
  have K0 := Lib.hid (al4c w (Obj.cells (s.cs A n c) 24) (Obj.cells (s'.cs D m d) 24) (Obj.cells #[iv u] 3) (Obj.cells #[Value.string ⟨#[]⟩, Value.slice none 0 0, iv 0, iv 0, iv 0, iv 0, iv 0, iv 0, iv 0, iv 0, iv 0, iv 0, iv 0] 24))
  have R0 := Lib.hid (al4d w (Obj.cells (s.cs A n c) 24) (Obj.cells (s'.cs D m d) 24) (Obj.cells #[iv u] 3) (Obj.cells #[Value.string ⟨#[]⟩, Value.slice none 0 0, iv 0, iv 0, iv 0, iv 0, iv 0, iv 0, iv 0, iv 0, iv 0, iv 0, iv 0] 24))
  have HD := Lib.hid hA
  have HE := Lib.hid hD
  clear hA hD
  have l0 : (0 : Int) ≤ (n : Int) := by omega
  have l1 : (0 : Int) ≤ (m : Int) := by omega
  have e0 : (s.a2 != s.a2) = false := by simp
  have t0 : (0 : Int) ≤ (u : Int) := by omega
  have t1 : (u : Int) ≤ (n : Int) := by omega
  have wn : wrap64 ((u : Int) + (m : Int)) = (u : Int) + (m : Int) := by unfold wrap64; omega
  have d4 : decide (4096 < (u : Int) + (m : Int)) = false := decide_eq_false (by omega)
  have hN0 : (N : Int) ≤ 4096 := by rw [hNN]; split <;> omega
  have hnN : n ≤ N := by rw [hNN]; split <;> omega
  have hmN : u + m ≤ N := by rw [hNN]; split <;> omega
  obtain ⟨i0, hi, hz0, hz1, hz2⟩ := info_parts info3
  have HX := Lib.hid hx
  have HY := Lib.hid hy
  have HBT := Lib.hid hb
  have HBD := bits_bd hb
  clear hx hy hb
  obtain rfl : N = u + m := by rw [hNN, if_pos hlt]
  have m1 : ((n : Int) < (u : Int) + (m : Int)) = True := eq_true (by omega)
  have HQ := Lib.hid (show (n : Int) ≤ 1000000 ∧ (m : Int) ≤ 1000000 ∧ (u : Int) + m ≤ 4096 ∧ (n : Int) ≤ 4096 ∧ ((u + m) : Int) ≤ 4096 ∧ n ≤ (u + m) ∧ u + m ≤ (u + m) ∧ u ≤ n from ⟨hn, hm, hN, hn4, by omega, by omega, by omega, ht1⟩)
  clear hn hm hN hn4 hN0 hnN hmN hNN
  go_enter Try.func55, Try.ntmps55
  go_upto_region 3 with (first
    | (refine wpList_load_row rfl 24 (.tmp 3) rfl (w.heap.size) rfl 24 _ (0, 0) _ P0.out Try.underlying24 rfl (S.i24 _ _ _ _) ?_)
    | (go_at_call 15; (with_reducible refine (valid_any s A n c b o xs (by have := HQ.out; omega) hc _ (HD.out.later hB0)).mono ?_); rintro e w1 ⟨rfl, hb1⟩; have P1 := Lib.hid (bkBelow P0.out hb1); have Q1 := Lib.hid (bkBelow Q0.out hb1); have K1 := Lib.hid (bkBelow K0.out hb1); have R1 := Lib.hid (bkBelow R0.out hb1); have B1 := bdT hB0 hB0.size hb1; simp only [hva] )
    | (refine gdOn (by rfl) ?_; refine wpList_load_row rfl 24 (.tmp 4) rfl (w.heap.size + 1) rfl 24 _ (0, 0) _ Q1.out Try.underlying24 rfl (S.i24 _ _ _ _) ?_)
    | (go_at_call 15; (with_reducible refine (valid_any s' D m d b' o' ys (by have := HQ.out; omega) hd _ (HE.out.later B1)).mono ?_); rintro e w2 ⟨rfl, hb2⟩; have P2 := Lib.hid (bkBelow P1.out hb2); have Q2 := Lib.hid (bkBelow Q1.out hb2); have K2 := Lib.hid (bkBelow K1.out hb2); have R2 := Lib.hid (bkBelow R1.out hb2); have B2 := bdT B1 B1.size hb2; simp only [hvb]; have p1 := (bkCell P2.out 1).trans (show _ = some (Value.slice A n c) from rfl); have p2 := (bkCell P2.out 2).trans (show _ = some (iv s.a2) from rfl); have q1 := (bkCell Q2.out 1).trans (show _ = some (Value.slice D m d) from rfl); have q2 := (bkCell Q2.out 2).trans (show _ = some (iv s'.a2) from rfl); rw [hbt] at q2; have k0 := (bkCell K2.out 0).trans (show _ = some (iv u) from rfl)))
  go_upto_region 8 with (first
    | (go_at_call 87; (with_reducible refine (in_yes _ _ _ _ t0 t1).mono ?_); rintro e w5 ⟨rfl, rfl⟩)
    | (at_make; refine wpList_make_full _ rfl _ _ 22 rfl w.heap.size 3 i0 (.int .i64 0) 1 Try.underlying22 hi hz0 hz1 .i64 .i64 _ _ (u + m) rfl rfl rfl rfl (by rw [hz2]; have := HQ.out; omega) (by unfold maxLen; have := HQ.out; omega) (by have := B2.size; omega) ?_; intro w3 hown hgrow; have P3 := Lib.hid (grBlk P2.out hgrow (by simp)); have Q3 := Lib.hid (grBlk Q2.out hgrow (by simp)); have K3 := Lib.hid (grBlk K2.out hgrow (by simp)); have R3 := Lib.hid (grBlk R2.out hgrow (by simp)); have B3 := B2.grown hgrow B2.size (by simp); have O3 := Lib.hid hown; have p1 := (bkCell P3.out 1).trans (show _ = some (Value.slice A n c) from rfl); have q1 := (bkCell Q3.out 1).trans (show _ = some (Value.slice D m d) from rfl)))
  go_upto_region 9 with (refine wpCopy rfl _ _ rfl w.heap.size w2.heap.size (u + m) n c b o A (fun _ => 0) xs rfl rfl (ownN O3.out (by rw [rw_zero]; first | rfl | (rw [Nat.mul_one]; exact toList_madeCells_one _ _))) (HD.out.later B3) (by have := HQ.out; omega) (by have := HQ.out; omega) B2.size ?_; intro w4 O4 hb4; have hs4 := ownFarA O4; have P4 := Lib.hid ((hb4.block _ (bkLt P2.out)).trans P3.out); have Q4 := Lib.hid ((hb4.block _ (bkLt Q2.out)).trans Q3.out); have K4 := Lib.hid ((hb4.block _ (bkLt K2.out)).trans K3.out); have R4 := Lib.hid ((hb4.block _ (bkLt R2.out)).trans R3.out); have B4 := B3.trans (hb4.mono B2.size); have NO4 := Lib.hid O4; have p1 := (bkCell P4.out 1).trans (show _ = some (Value.slice A n c) from rfl); have q1 := (bkCell Q4.out 1).trans (show _ = some (Value.slice D m d) from rfl); have f1 := bkFrozen P4.out 1)
  go_upto_region 10 with (fail)
  have S5 : (w4.setCell ⟨w.heap.size, 1, none⟩ (.slice (some ⟨w2.heap.size, 0, none⟩) (u + m) (u + m))).heap.size = w4.heap.size := by simp
  have P5 := Lib.hid (bkPut P4.out 1 (.slice (some ⟨w2.heap.size, 0, none⟩) (u + m) (u + m)) (S.set1 s A (some ⟨w2.heap.size, 0, none⟩) n c (u + m) (u + m)))
  have Q5 := Lib.hid (bkFar Q4.out (p := ⟨w.heap.size, 1, none⟩) (by simp) (.slice (some ⟨w2.heap.size, 0, none⟩) (u + m) (u + m)))
  have K5 := Lib.hid (bkFar K4.out (p := ⟨w.heap.size, 1, none⟩) (by simp; omega) (.slice (some ⟨w2.heap.size, 0, none⟩) (u + m) (u + m)))
  have R5 := Lib.hid (bkFar R4.out (p := ⟨w.heap.size, 1, none⟩) (by simp; omega) (.slice (some ⟨w2.heap.size, 0, none⟩) (u + m) (u + m)))
  have B5 := B4.setCell (p := ⟨w.heap.size, 1, none⟩) (by simp) (.slice (some ⟨w2.heap.size, 0, none⟩) (u + m) (u + m))
  have hP2 := bkLt P2.out
  have O5 := Lib.hid (ownCell NO4.out (p := ⟨w.heap.size, 1, none⟩) (by simp; omega) (.slice (some ⟨w2.heap.size, 0, none⟩) (u + m) (u + m)))
  have M5 := Lib.hid (mapped_any s (some ⟨w2.heap.size, 0, none⟩) (u + m) (u + m) w2.heap.size 0 _ _ HBT.out (by have := HQ.out; omega) 103 #[.pointer (some ⟨w.heap.size + 1 + 1, 0, none⟩), .pointer (some ⟨w.heap.size + 1, 0, none⟩)] (enters_of Try.func103 (by kernel_rfl) rfl) (mixG xs ys n m u) _ (ownData O5.out) (fun W i hW hi => by
    have e : mixG xs ys n m u i = (if i < n then xs i else 0) + if u ≤ i ∧ i < u + m then ys (i - u) else 0 := rfl
    rw [e]
    have hq := HQ.out
    exact mixfn_any i u m d b' o' (w.heap.size + 1 + 1) (w.heap.size + 1) _ s' D ys W (by omega) (by omega) (by omega) (by split <;> (have := HX.out i; omega)) (by split <;> (have := HX.out i; omega)) (fun j hj => by have := HY.out j hj; omega) (bkBelow K5.out hW) (bkBelow Q5.out hW) ((HE.out.later B5).later hW)))
  clear P2 Q2 K2 R2 P3 Q3 K3 R3
  go_wp2_with (first
    | (refine wpList_load_row rfl 24 (.tmp 3) rfl (w.heap.size) rfl 24 _ (0, 0) _ P5.out Try.underlying24 rfl (S.i24 _ _ _ _) ?_)
    | (go_at_call 96; (with_reducible refine M5.out.mono ?_); rintro e w6 ⟨g, rfl, D6, hg6, hb6⟩; have R6 := Lib.hid (bkBelow R5.out hb6); have B6 := bdT B5 B5.size hb6; have ND6 := Lib.hid D6)
    | (refine wpList_store_row rfl 24 (.tmp 6) (.tmp 57) rfl (w.heap.size + 1 + 1 + 1) (s.cs (some ⟨g, 0, none⟩) (u + m) (u + m)) rfl rfl 24 _ R6.out (S.i24 _ _ _ _) (S.sz S.zero s none _ 0 0 _ _) (S.one _ _ _ _) ?_))
  have hR4 := bkLt R4.out
  refine bodyPost_ret (res_ct rfl _ _ (w.heap.size + 1 + 1 + 1) 24 _ (0, 0) _ rfl (setRow_heap _ _ _ _ _ _ R6.out) Try.underlying24 rfl (S.i24 _ _ _ _)) rfl ⟨_, _, g, 0, rfl, ND6.out.setRow (fun _ => by rw [S5] at hg6; omega) _, below_setRow B6 (by omega) _⟩
set_option maxHeartbeats 16000000 in
set_option maxRecDepth 100000 in
theorem mix_okB (s s' : S) (A D : Option Addr) (n c m d b o b' o' : Nat) (xs ys : Nat → Int) (w : World) (hA : DataAt w A n b o xs) (hD : DataAt w D m b' o' ys) (hn : (n : Int) ≤ 1000000) (hm : (m : Int) ≤ 1000000) (hc : n ≤ c) (hd : m ≤ d) (u : Nat) (h : Int) (hb : Bits s.a2 h) (hx : ∀ i, i < n → -h ≤ xs i ∧ xs i ≤ h - 1) (hy : ∀ i, i < m → -h ≤ ys i ∧ ys i ≤ h - 1) (hva : vS s n xs = true) (hvb : vS s' m ys = true) (hbt : s'.a2 = s.a2) (ht1 : u ≤ n) (hN : (u : Int) + m ≤ 4096) (hn4 : (n : Int) ≤ 4096) (N : Nat) (hNN : N = if n < u + m then u + m else n) (hlt : ¬ n < u + m) :
    Calls Try.prog 55 #[.agg (s.cs A n c), .agg (s'.cs D m d), iv u] w fun e w' => ∃ A' c' b o, e = .returned (.tuple #[.agg (s.cs A' N c'), iv 0]) ∧ DataAt w' A' N b o (fun i => clp h (mixG xs ys n m u i)) ∧ Below w.heap.size w w' := by
  have hB0 : Below w.heap.size w ((((w.alloc (Obj.cells (s.cs A n c) 24)).alloc (Obj.cells (s'.cs D m d) 24)).alloc (Obj.cells #[iv u] 3)).alloc (Obj.cells #[Value.string ⟨#[]⟩, Value.slice none 0 0, iv 0, iv 0, iv 0, iv 0, iv 0, iv 0, iv 0, iv 0, iv 0, iv 0, iv 0] 24)) := ((((Below.refl _ _).alloc (Nat.le_refl _) _).alloc (by simp) _).alloc (by simp; omega) _).alloc (by simp; omega) _
  have P0 := Lib.hid (al4a w (Obj.cells (s.cs A n c) 24) (Obj.cells (s'.cs D m d) 24) (Obj.cells #[iv u] 3) (Obj.cells #[Value.string ⟨#[]⟩, Value.slice none 0 0, iv 0, iv 0, iv 0, iv 0, iv 0, iv 0, iv 0, iv 0, iv 0, iv 0, iv 0] 24))
  have Q0 := Lib.hid (al4b w (Obj.cells (s.cs A n c) 24) (Obj.cells (s'.cs D m d) 24) (Obj.cells #[iv u] 3) (Obj.cells #[Value.string ⟨#[]⟩, Value.slice none 0 0, iv 0, iv 0, iv 0, iv 0, iv 0, iv 0, iv 0, iv 0, iv 0, iv 0, iv 0] 24))
  have K0 := Lib.hid (al4c w (Obj.cells (s.cs A n c) 24) (Obj.cells (s'.cs D m d) 24) (Obj.cells #[iv u] 3) (Obj.cells #[Value.string ⟨#[]⟩, Value.slice none 0 0, iv 0, iv 0, iv 0, iv 0, iv 0, iv 0, iv 0, iv 0, iv 0, iv 0, iv 0] 24))
  have R0 := Lib.hid (al4d w (Obj.cells (s.cs A n c) 24) (Obj.cells (s'.cs D m d) 24) (Obj.cells #[iv u] 3) (Obj.cells #[Value.string ⟨#[]⟩, Value.slice none 0 0, iv 0, iv 0, iv 0, iv 0, iv 0, iv 0, iv 0, iv 0, iv 0, iv 0, iv 0] 24))
  have HD := Lib.hid hA
  have HE := Lib.hid hD
  clear hA hD
  have l0 : (0 : Int) ≤ (n : Int) := by omega
  have l1 : (0 : Int) ≤ (m : Int) := by omega
  have e0 : (s.a2 != s.a2) = false := by simp
  have t0 : (0 : Int) ≤ (u : Int) := by omega
  have t1 : (u : Int) ≤ (n : Int) := by omega
  have wn : wrap64 ((u : Int) + (m : Int)) = (u : Int) + (m : Int) := by unfold wrap64; omega
  have d4 : decide (4096 < (u : Int) + (m : Int)) = false := decide_eq_false (by omega)
  have hN0 : (N : Int) ≤ 4096 := by rw [hNN]; split <;> omega
  have hnN : n ≤ N := by rw [hNN]; split <;> omega
  have hmN : u + m ≤ N := by rw [hNN]; split <;> omega
  obtain ⟨i0, hi, hz0, hz1, hz2⟩ := info_parts info3
  have HX := Lib.hid hx
  have HY := Lib.hid hy
  have HBT := Lib.hid hb
  have HBD := bits_bd hb
  clear hx hy hb
  obtain rfl : N = n := by rw [hNN, if_neg hlt]
  have m1 : ((N : Int) < (u : Int) + (m : Int)) = False := eq_false (by omega)
  have HQ := Lib.hid (show (N : Int) ≤ 1000000 ∧ (m : Int) ≤ 1000000 ∧ (u : Int) + m ≤ 4096 ∧ (N : Int) ≤ 4096 ∧ (N : Int) ≤ 4096 ∧ N ≤ N ∧ u + m ≤ N ∧ u ≤ N from ⟨hn, hm, hN, hn4, by omega, by omega, by omega, ht1⟩)
  clear hn hm hN hn4 hN0 hnN hmN hNN
  go_enter Try.func55, Try.ntmps55
  go_upto_region 3 with (first
    | (refine wpList_load_row rfl 24 (.tmp 3) rfl (w.heap.size) rfl 24 _ (0, 0) _ P0.out Try.underlying24 rfl (S.i24 _ _ _ _) ?_)
    | (go_at_call 15; (with_reducible refine (valid_any s A N c b o xs (by have := HQ.out; omega) hc _ (HD.out.later hB0)).mono ?_); rintro e w1 ⟨rfl, hb1⟩; have P1 := Lib.hid (bkBelow P0.out hb1); have Q1 := Lib.hid (bkBelow Q0.out hb1); have K1 := Lib.hid (bkBelow K0.out hb1); have R1 := Lib.hid (bkBelow R0.out hb1); have B1 := bdT hB0 hB0.size hb1; simp only [hva] )
    | (refine gdOn (by rfl) ?_; refine wpList_load_row rfl 24 (.tmp 4) rfl (w.heap.size + 1) rfl 24 _ (0, 0) _ Q1.out Try.underlying24 rfl (S.i24 _ _ _ _) ?_)
    | (go_at_call 15; (with_reducible refine (valid_any s' D m d b' o' ys (by have := HQ.out; omega) hd _ (HE.out.later B1)).mono ?_); rintro e w2 ⟨rfl, hb2⟩; have P2 := Lib.hid (bkBelow P1.out hb2); have Q2 := Lib.hid (bkBelow Q1.out hb2); have K2 := Lib.hid (bkBelow K1.out hb2); have R2 := Lib.hid (bkBelow R1.out hb2); have B2 := bdT B1 B1.size hb2; simp only [hvb]; have p1 := (bkCell P2.out 1).trans (show _ = some (Value.slice A N c) from rfl); have p2 := (bkCell P2.out 2).trans (show _ = some (iv s.a2) from rfl); have q1 := (bkCell Q2.out 1).trans (show _ = some (Value.slice D m d) from rfl); have q2 := (bkCell Q2.out 2).trans (show _ = some (iv s'.a2) from rfl); rw [hbt] at q2; have k0 := (bkCell K2.out 0).trans (show _ = some (iv u) from rfl)))
  go_upto_region 8 with (first
    | (go_at_call 87; (with_reducible refine (in_yes _ _ _ _ t0 t1).mono ?_); rintro e w5 ⟨rfl, rfl⟩)
    | (at_make; refine wpList_make_full _ rfl _ _ 22 rfl w.heap.size 3 i0 (.int .i64 0) 1 Try.underlying22 hi hz0 hz1 .i64 .i64 _ _ N rfl rfl rfl rfl (by rw [hz2]; have := HQ.out; omega) (by unfold maxLen; have := HQ.out; omega) (by have := B2.size; omega) ?_; intro w3 hown hgrow; have P3 := Lib.hid (grBlk P2.out hgrow (by simp)); have Q3 := Lib.hid (grBlk Q2.out hgrow (by simp)); have K3 := Lib.hid (grBlk K2.out hgrow (by simp)); have R3 := Lib.hid (grBlk R2.out hgrow (by simp)); have B3 := B2.grown hgrow B2.size (by simp); have O3 := Lib.hid hown; have p1 := (bkCell P3.out 1).trans (show _ = some (Value.slice A N c) from rfl); have q1 := (bkCell Q3.out 1).trans (show _ = some (Value.slice D m d) from rfl)))
  go_upto_region 9 with (refine wpCopy rfl _ _ rfl w.heap.size w2.heap.size N N c b o A (fun _ => 0) xs rfl rfl (ownN O3.out (by rw [rw_zero]; first | rfl | (rw [Nat.mul_one]; exact toList_madeCells_one _ _))) (HD.out.later B3) (by have := HQ.out; omega) (by have := HQ.out; omega) B2.size ?_; intro w4 O4 hb4; have hs4 := ownFarA O4; have P4 := Lib.hid ((hb4.block _ (bkLt P2.out)).trans P3.out); have Q4 := Lib.hid ((hb4.block _ (bkLt Q2.out)).trans Q3.out); have K4 := Lib.hid ((hb4.block _ (bkLt K2.out)).trans K3.out); have R4 := Lib.hid ((hb4.block _ (bkLt R2.out)).trans R3.out); have B4 := B3.trans (hb4.mono B2.size); have NO4 := Lib.hid O4; have p1 := (bkCell P4.out 1).trans (show _ = some (Value.slice A N c) from rfl); have q1 := (bkCell Q4.out 1).trans (show _ = some (Value.slice D m d) from rfl); have f1 := bkFrozen P4.out 1)
  go_upto_region 10 with (fail)
  have S5 : (w4.setCell ⟨w.heap.size, 1, none⟩ (.slice (some ⟨w2.heap.size, 0, none⟩) N N)).heap.size = w4.heap.size := by simp
  have P5 := Lib.hid (bkPut P4.out 1 (.slice (some ⟨w2.heap.size, 0, none⟩) N N) (S.set1 s A (some ⟨w2.heap.size, 0, none⟩) N c N N))
  have Q5 := Lib.hid (bkFar Q4.out (p := ⟨w.heap.size, 1, none⟩) (by simp) (.slice (some ⟨w2.heap.size, 0, none⟩) N N))
  have K5 := Lib.hid (bkFar K4.out (p := ⟨w.heap.size, 1, none⟩) (by simp; omega) (.slice (some ⟨w2.heap.size, 0, none⟩) N N))
  have R5 := Lib.hid (bkFar R4.out (p := ⟨w.heap.size, 1, none⟩) (by simp; omega) (.slice (some ⟨w2.heap.size, 0, none⟩) N N))
  have B5 := B4.setCell (p := ⟨w.heap.size, 1, none⟩) (by simp) (.slice (some ⟨w2.heap.size, 0, none⟩) N N)
  have hP2 := bkLt P2.out
  have O5 := Lib.hid (ownCell NO4.out (p := ⟨w.heap.size, 1, none⟩) (by simp; omega) (.slice (some ⟨w2.heap.size, 0, none⟩) N N))
  have M5 := Lib.hid (mapped_any s (some ⟨w2.heap.size, 0, none⟩) N N w2.heap.size 0 _ _ HBT.out (by have := HQ.out; omega) 103 #[.pointer (some ⟨w.heap.size + 1 + 1, 0, none⟩), .pointer (some ⟨w.heap.size + 1, 0, none⟩)] (enters_of Try.func103 (by kernel_rfl) rfl) (mixG xs ys N m u) _ (ownData O5.out) (fun W i hW hi => by
    have e : mixG xs ys N m u i = (if i < N then xs i else 0) + if u ≤ i ∧ i < u + m then ys (i - u) else 0 := rfl
    rw [e]
    have hq := HQ.out
    exact mixfn_any i u m d b' o' (w.heap.size + 1 + 1) (w.heap.size + 1) _ s' D ys W (by omega) (by omega) (by omega) (by split <;> (have := HX.out i; omega)) (by split <;> (have := HX.out i; omega)) (fun j hj => by have := HY.out j hj; omega) (bkBelow K5.out hW) (bkBelow Q5.out hW) ((HE.out.later B5).later hW)))
  clear P2 Q2 K2 R2 P3 Q3 K3 R3
  go_wp2_with (first
    | (refine wpList_load_row rfl 24 (.tmp 3) rfl (w.heap.size) rfl 24 _ (0, 0) _ P5.out Try.underlying24 rfl (S.i24 _ _ _ _) ?_)
    | (go_at_call 96; (with_reducible refine M5.out.mono ?_); rintro e w6 ⟨g, rfl, D6, hg6, hb6⟩; have R6 := Lib.hid (bkBelow R5.out hb6); have B6 := bdT B5 B5.size hb6; have ND6 := Lib.hid D6)
    | (refine wpList_store_row rfl 24 (.tmp 6) (.tmp 57) rfl (w.heap.size + 1 + 1 + 1) (s.cs (some ⟨g, 0, none⟩) N N) rfl rfl 24 _ R6.out (S.i24 _ _ _ _) (S.sz S.zero s none _ 0 0 _ _) (S.one _ _ _ _) ?_))
  have hR4 := bkLt R4.out
  refine bodyPost_ret (res_ct rfl _ _ (w.heap.size + 1 + 1 + 1) 24 _ (0, 0) _ rfl (setRow_heap _ _ _ _ _ _ R6.out) Try.underlying24 rfl (S.i24 _ _ _ _)) rfl ⟨_, _, g, 0, rfl, ND6.out.setRow (fun _ => by rw [S5] at hg6; omega) _, below_setRow B6 (by omega) _⟩
end Go.Proofs.Ytnmoiolddfboiaa.TX

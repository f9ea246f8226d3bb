/- All samples that package tune returns are valid: the law. -/
import Derived.Test.YtnmoiolddfboiaaSyU
namespace Go.Proofs.Ytnmoiolddfboiaa.SX
open Go.RowKit Go.Proofs.YtnmoiolddfboiaaW.PrintLast Go.Proofs.Ytnmoiolddfboiaa.TX Go.Proofs.Ytnmoiolddfboiaa.Cu
set_option linter.unusedVariables false
set_option linter.unusedSimpArgs false
set_option maxHeartbeats 16000000 in
set_option maxRecDepth 100000 in
theorem good_fn (s t : S) (A0 A : Option Addr) (n0 k0 m c b o g : Nat) (ys : Nat → Int) (er : Int) (ho : er = 0 → vS t m ys = true ∧ t.a2 = s.a2 ∧ t.nm = s.nm) (hm : m ≤ 1000000) (w : World) (hP : w.heap[g]? = some (.cells (s.cs A0 n0 k0) 24 (0, 0))) (hA : DataAt w A m b o ys) :
    Calls Try.prog 51 #[.agg (t.cs A m c), iv er, .pointer (some ⟨g, 0, none⟩)] w fun e w' => e = .returned (.bool true) ∧ Below w.heap.size w w' := by
  have B0 : Below w.heap.size w (w.alloc (Obj.cells (t.cs A m c) 24)) := (Below.refl _ _).alloc (Nat.le_refl _) _
  have P0 := Lib.hid (heap_alloc_new w (Obj.cells (t.cs A m c) 24))
  have G0 := Lib.hid (bkAlloc hP (Obj.cells (t.cs A m c) 24))
  have D0 := Lib.hid (hA.later B0)
  by_cases h0 : er = 0
  · obtain ⟨hv, h2, hnm⟩ := ho h0
    have e0 : (er != 0) = false := by simp [h0]
    have VC := Lib.hid fun (W : World) (h : DataAt W A m b o ys) => (show Calls Try.prog 15 #[.agg (t.cs A m c)] W fun e w' => e = .returned (.bool true) ∧ Below W.heap.size W w' from hv ▸ vfree_any t A m c b o ys (by omega) W h)
    have RC := Lib.hid fun (W : World) (h : DataAt W A m b o ys) => (show Calls Try.prog 25 #[.agg (t.cs A m c)] W fun e w' => e = .returned (.bool true) ∧ Below W.heap.size W w' from hv ▸ rvfree_any t A m c b o ys (by omega) W h)
    have H2 := Lib.hid h2
    have HN := Lib.hid hnm
    clear h0 ho hv h2 hnm hP hA
    go_enter Try.func51, Try.ntmps51
    go_wp2_with (first
      | (refine gdOn (by rfl) ?_; refine wpList_load_row rfl 24 (.tmp 3) rfl (w.heap.size) rfl 24 _ (0, 0) _ P0.out Try.underlying24 rfl (S.i24 _ _ _ _) ?_)
      | (go_at_call 15; (with_reducible refine (VC.out _ D0.out).mono ?_); rintro e w1 ⟨rfl, hb1⟩; have P1 := Lib.hid (bkBelow P0.out hb1); have G1 := Lib.hid (bkBelow G0.out hb1); have D1 := Lib.hid (D0.out.later hb1); have B1 := bdT B0 B0.size hb1)
      | (refine gdOn (by rfl) ?_; refine wpList_load_row rfl 24 (.tmp 3) rfl (w.heap.size) rfl 24 _ (0, 0) _ P1.out Try.underlying24 rfl (S.i24 _ _ _ _) ?_)
      | (go_at_call 25; (with_reducible refine (RC.out _ D1.out).mono ?_); rintro e w2 ⟨rfl, hb2⟩; have P2 := Lib.hid (bkBelow P1.out hb2); have G2 := Lib.hid (bkBelow G1.out hb2); have B2 := bdT B1 B1.size hb2; have p2 := (bkCell P2.out 2).trans (show _ = some (iv s.a2) from congrArg (fun x => some (iv x)) H2.out); have q2 := (bkCell G2.out 2).trans (show _ = some (iv s.a2) from rfl); have p0 := (bkCell P2.out 0).trans (show _ = some (Value.string s.nm) from congrArg (fun x => some (Value.string x)) HN.out); have q0 := (bkCell G2.out 0).trans (show _ = some (Value.string s.nm) from rfl)))
    go_ret
    exact ⟨rfl, B2⟩
  · have e0 : (er != 0) = true := by simp [h0]
    clear h0 ho hP hA
    go_enter Try.func51, Try.ntmps51
    go_wp2
    go_ret
    exact ⟨rfl, B0⟩
def twv (s : S) (A : Option Addr) (n c : Nat) (x y z u : Int) : Array Value := #[.string s.nm, .slice A n c, iv s.a2, iv s.a3, iv s.a4, iv s.a5, iv s.a6, iv s.a7, iv s.a8, iv s.a9, iv s.a10, iv s.a11, iv s.a12, iv x, iv y, iv z, iv u]
theorem tv_smp {w : World} {g : Nat} {s : S} {A : Option Addr} {n c : Nat} {x y z u : Int} (hg : w.heap[g]? = some (.cells (twv s A n c x y z u) 58 (0, 0))) : w.rangeAt g 0 (s.cs A n c).toList := by
  intro j v hj
  rw [Nat.zero_add, bkCell hg j]
  have hl : j < 13 := by
    have := (List.getElem?_eq_some_iff.1 hj).1
    simpa [S.cs] using this
  have e : ∀ j, j < 13 → (twv s A n c x y z u)[j]? = (s.cs A n c).toList[j]? := by
    intro j hj
    rcases (by omega : j = 0 ∨ j = 1 ∨ j = 2 ∨ j = 3 ∨ j = 4 ∨ j = 5 ∨ j = 6 ∨ j = 7 ∨ j = 8 ∨ j = 9 ∨ j = 10 ∨ j = 11 ∨ j = 12) with rfl | rfl | rfl | rfl | rfl | rfl | rfl | rfl | rfl | rfl | rfl | rfl | rfl <;> rfl
  rw [e j hl]
  exact hj
theorem good_c {F : FuncId} {args : Array Value} {w : World} {s : S} (h : Good F args w s) : Calls Try.prog F args w fun e w' => ∃ (t : S) (A' : Option Addr) (m c' b' o' : Nat) (ys : Nat → Int) (er : Int), e = .returned (.tuple #[.agg (t.cs A' m c'), iv er]) ∧ DataAt w' A' m b' o' ys ∧ (er = 0 → vS t m ys = true ∧ t.a2 = s.a2 ∧ t.nm = s.nm) ∧ m ≤ 1000000 ∧ Below w.heap.size w w' := h
set_option maxHeartbeats 32000000 in
set_option maxRecDepth 100000 in
theorem val_w1 (s s2 : S) (A D : Option Addr) (n c m d b o b2 o2 : Nat) (xs ys : Nat → Int) (x y z u : Int) (h1 : decide (n ≤ 5000 ∧ s.nm.size ≤ 100) = false) (hn : n ≤ 9223372036854775807) (hc : n ≤ c) (hm : m ≤ 9223372036854775807) (hd : m ≤ d) (w : World) (hA : DataAt w A n b o xs) (hD : DataAt w D m b2 o2 ys) : Calls Try.prog 14 #[.agg (twv s A n c x y z u), .agg (s2.cs D m d)] w fun e w' => e = .returned (.bool true) ∧ Below w.heap.size w w' := by
  have B0 : Below w.heap.size w ((w.alloc (Obj.cells (twv s A n c x y z u) 58)).alloc (Obj.cells (s2.cs D m d) 24)) := ((Below.refl _ _).alloc (Nat.le_refl _) _).alloc (by simp) _
  have P0 := Lib.hid (heap_alloc2_old w (Obj.cells (twv s A n c x y z u) 58) (Obj.cells (s2.cs D m d) 24))
  have Q0 := Lib.hid (heap_alloc2_new w (Obj.cells (twv s A n c x y z u) 58) (Obj.cells (s2.cs D m d) 24))
  have D0 := Lib.hid (hA.later B0)
  have E0 := Lib.hid (hD.later B0)
  have T1 := Lib.hid fun (W : World) => tame_any s A n c W
  have T2 := Lib.hid fun (W : World) => tame_any s2 D m d W
  rw [h1] at T1
  clear h1 hA hD
  go_enter Try.func14, Try.ntmps14
  go_upto_region 1 with (fail)
  generalize ((w.alloc (Obj.cells (twv s A n c x y z u) 58)).alloc (Obj.cells (s2.cs D m d) 24)) = w0 at *
  go_upto_region 2 with (first
    | (refine wpList_load_mid rfl 24 (.tmp 21) rfl (w.heap.size) 0 rfl (s.cs A n c).toList _ (tv_smp P0.out) Try.underlying24 rfl (by simpa using S.i24 s A n c) ?_)
    | (refine wpList_store_row rfl 24 (.tmp 5) (.tmp 22) rfl (w0.heap.size) (s.cs A n c) rfl rfl 24 _ (heap_alloc_new w0 (Obj.cells #[Value.string ⟨#[]⟩, Value.slice none 0 0, iv 0, iv 0, iv 0, iv 0, iv 0, iv 0, iv 0, iv 0, iv 0, iv 0, iv 0] 24)) (S.i24 _ _ _ _) (S.sz S.zero _ none _ 0 0 _ _) (S.one _ _ _ _) ?_; have K1 := below_setRow ((Below.refl w0.heap.size w0).alloc (Nat.le_refl _) (Obj.cells #[Value.string ⟨#[]⟩, Value.slice none 0 0, iv 0, iv 0, iv 0, iv 0, iv 0, iv 0, iv 0, iv 0, iv 0, iv 0, iv 0] 24)) (g := w0.heap.size) (Nat.le_refl _) (s.cs A n c); have P1 := Lib.hid (bkBelow P0.out K1); have Q1 := Lib.hid (bkBelow Q0.out K1); have D1 := Lib.hid (D0.out.later K1); have E1 := Lib.hid (E0.out.later K1); have B1 := bdT B0 B0.size K1; have S1 := Lib.hid (setRow_heap _ _ _ (s.cs A n c) _ _ (heap_alloc_new w0 (Obj.cells #[Value.string ⟨#[]⟩, Value.slice none 0 0, iv 0, iv 0, iv 0, iv 0, iv 0, iv 0, iv 0, iv 0, iv 0, iv 0, iv 0] 24))); clear P0 Q0 D0 E0))
  go_wp2_with (first
    | (refine wpList_load_row rfl 24 (.tmp 5) rfl (w0.heap.size) rfl 24 _ (0, 0) _ S1.out Try.underlying24 rfl (S.i24 _ _ _ _) ?_)
    | (go_at_call 46; (with_reducible refine (T1.out _).mono ?_); rintro e w2 ⟨rfl, hb2⟩; have P2 := Lib.hid (bkBelow P1.out hb2); have Q2 := Lib.hid (bkBelow Q1.out hb2); have D2 := Lib.hid (D1.out.later hb2); have E2 := Lib.hid (E1.out.later hb2); have S2 := Lib.hid (bkBelow S1.out hb2); have B2 := bdT B1 B1.size hb2; clear P1 Q1 D1 E1 S1))
  go_ret
  exact ⟨rfl, B2⟩
set_option maxHeartbeats 32000000 in
set_option maxRecDepth 100000 in
theorem val_w2 (s s2 : S) (A D : Option Addr) (n c m d b o b2 o2 : Nat) (xs ys : Nat → Int) (x y z u : Int) (h1 : decide (n ≤ 5000 ∧ s.nm.size ≤ 100) = true) (h2 : decide (m ≤ 5000 ∧ s2.nm.size ≤ 100) = false) (hn : n ≤ 9223372036854775807) (hc : n ≤ c) (hm : m ≤ 9223372036854775807) (hd : m ≤ d) (w : World) (hA : DataAt w A n b o xs) (hD : DataAt w D m b2 o2 ys) : Calls Try.prog 14 #[.agg (twv s A n c x y z u), .agg (s2.cs D m d)] w fun e w' => e = .returned (.bool true) ∧ Below w.heap.size w w' := by
  have B0 : Below w.heap.size w ((w.alloc (Obj.cells (twv s A n c x y z u) 58)).alloc (Obj.cells (s2.cs D m d) 24)) := ((Below.refl _ _).alloc (Nat.le_refl _) _).alloc (by simp) _
  have P0 := Lib.hid (heap_alloc2_old w (Obj.cells (twv s A n c x y z u) 58) (Obj.cells (s2.cs D m d) 24))
  have Q0 := Lib.hid (heap_alloc2_new w (Obj.cells (twv s A n c x y z u) 58) (Obj.cells (s2.cs D m d) 24))
  have D0 := Lib.hid (hA.later B0)
  have E0 := Lib.hid (hD.later B0)
  have T1 := Lib.hid fun (W : World) => tame_any s A n c W
  have T2 := Lib.hid fun (W : World) => tame_any s2 D m d W
  rw [h1] at T1
  rw [h2] at T2
  clear h1 h2 hA hD
  go_enter Try.func14, Try.ntmps14
  go_upto_region 1 with (fail)
  generalize ((w.alloc (Obj.cells (twv s A n c x y z u) 58)).alloc (Obj.cells (s2.cs D m d) 24)) = w0 at *
  go_upto_region 2 with (first
    | (refine wpList_load_mid rfl 24 (.tmp 21) rfl (w.heap.size) 0 rfl (s.cs A n c).toList _ (tv_smp P0.out) Try.underlying24 rfl (by simpa using S.i24 s A n c) ?_)
    | (refine wpList_store_row rfl 24 (.tmp 5) (.tmp 22) rfl (w0.heap.size) (s.cs A n c) rfl rfl 24 _ (heap_alloc_new w0 (Obj.cells #[Value.string ⟨#[]⟩, Value.slice none 0 0, iv 0, iv 0, iv 0, iv 0, iv 0, iv 0, iv 0, iv 0, iv 0, iv 0, iv 0] 24)) (S.i24 _ _ _ _) (S.sz S.zero _ none _ 0 0 _ _) (S.one _ _ _ _) ?_; have K1 := below_setRow ((Below.refl w0.heap.size w0).alloc (Nat.le_refl _) (Obj.cells #[Value.string ⟨#[]⟩, Value.slice none 0 0, iv 0, iv 0, iv 0, iv 0, iv 0, iv 0, iv 0, iv 0, iv 0, iv 0, iv 0] 24)) (g := w0.heap.size) (Nat.le_refl _) (s.cs A n c); have P1 := Lib.hid (bkBelow P0.out K1); have Q1 := Lib.hid (bkBelow Q0.out K1); have D1 := Lib.hid (D0.out.later K1); have E1 := Lib.hid (E0.out.later K1); have B1 := bdT B0 B0.size K1; have S1 := Lib.hid (setRow_heap _ _ _ (s.cs A n c) _ _ (heap_alloc_new w0 (Obj.cells #[Value.string ⟨#[]⟩, Value.slice none 0 0, iv 0, iv 0, iv 0, iv 0, iv 0, iv 0, iv 0, iv 0, iv 0, iv 0, iv 0] 24))); clear P0 Q0 D0 E0))
  go_wp2_with (first
    | (refine wpList_load_row rfl 24 (.tmp 5) rfl (w0.heap.size) rfl 24 _ (0, 0) _ S1.out Try.underlying24 rfl (S.i24 _ _ _ _) ?_)
    | (go_at_call 46; (with_reducible refine (T1.out _).mono ?_); rintro e w2 ⟨rfl, hb2⟩; have P2 := Lib.hid (bkBelow P1.out hb2); have Q2 := Lib.hid (bkBelow Q1.out hb2); have D2 := Lib.hid (D1.out.later hb2); have E2 := Lib.hid (E1.out.later hb2); have S2 := Lib.hid (bkBelow S1.out hb2); have B2 := bdT B1 B1.size hb2; clear P1 Q1 D1 E1 S1)
    | (refine gdOn (by rfl) ?_; refine wpList_load_row rfl 24 (.tmp 3) rfl (w.heap.size + 1) rfl 24 _ (0, 0) _ Q2.out Try.underlying24 rfl (S.i24 _ _ _ _) ?_)
    | (go_at_call 46; (with_reducible refine (T2.out _).mono ?_); rintro e w3 ⟨rfl, hb3⟩; have P3 := Lib.hid (bkBelow P2.out hb3); have Q3 := Lib.hid (bkBelow Q2.out hb3); have D3 := Lib.hid (D2.out.later hb3); have E3 := Lib.hid (E2.out.later hb3); have S3 := Lib.hid (bkBelow S2.out hb3); have B3 := bdT B2 B2.size hb3; clear P2 Q2 D2 E2 S2))
  go_ret
  exact ⟨rfl, B3⟩
/-- an answer that lies in a box: an error, or a valid sample of the same bits and name -/
def Ans (s : S) (k : Nat) (er : Int) (w : World) : Prop := ∃ (t : S) (A : Option Addr) (m c b o : Nat) (ys : Nat → Int), w.heap[k]? = some (.cells (t.cs A m c) 24 (0, 0)) ∧ DataAt w A m b o ys ∧ (er = 0 → vS t m ys = true ∧ t.a2 = s.a2 ∧ t.nm = s.nm) ∧ m ≤ 1000000
theorem Ans.mk_ {s : S} {k : Nat} {er : Int} {w : World} (t : S) (A : Option Addr) (m c b o : Nat) (ys : Nat → Int) (h1 : w.heap[k]? = some (.cells (t.cs A m c) 24 (0, 0))) (h2 : DataAt w A m b o ys) (h3 : er = 0 → vS t m ys = true ∧ t.a2 = s.a2 ∧ t.nm = s.nm) (h4 : m ≤ 1000000) : Ans s k er w := ⟨t, A, m, c, b, o, ys, h1, h2, h3, h4⟩
theorem Ans.later {s : S} {k : Nat} {er : Int} {w w' : World} (h : Ans s k er w) (hb : Below w.heap.size w w') : Ans s k er w' := by
  obtain ⟨t, A, m, c, b, o, ys, h1, h2, h3, h4⟩ := h
  exact ⟨t, A, m, c, b, o, ys, bkBelow h1 hb, h2.later hb, h3, h4⟩
def tl : Nat → Code → Code
  | k, .seq (.region n a d) b => if n == k then b else tl k b
  | k, .seq _ b => tl k b
  | _, c => c
def rg : Nat → Code → Code
  | k, .seq (.region n a d) b => if n == k then .region n a d else rg k b
  | k, .seq _ b => rg k b
  | _, c => c
noncomputable def bd : Code := Try.f14.body.getD .skip
set_option maxHeartbeats 32000000 in
set_option maxRecDepth 100000 in
theorem val_p8 (s s2 : S) (A D : Option Addr) (n c m d b o b2 o2 : Nat) (xs ys : Nat → Int) (x y z u : Int) (p q g : Nat) (k1 : Nat) (e1 : Int) (k2 : Nat) (e2 : Int) (k3 : Nat) (e3 : Int) (k4 : Nat) (e4 : Int) (k5 : Nat) (e5 : Int) (k6 : Nat) (e6 : Int) (k7 : Nat) (e7 : Int) (u0 u1 u4 u21 u22 u23 u24 u25 u26 u27 u28 u29 u30 u31 u32 u33 u34 u35 u36 u37 u38 u39 u40 u41 u42 u43 u44 u45 u46 u47 u48 u49 u50 u51 u52 u53 u54 u55 u56 u57 u58 u59 u60 u61 u62 u63 u64 u65 u66 u67 u68 u69 u70 u71 u72 u73 u74 u75 u76 u77 u78 u79 u80 u81 u82 u83 u84 u85 u86 u87 u88 u89 u90 u91 u92 u93 u94 u95 u96 u97 u98 u99 u100 u101 u102 u103 u104 u105 u106 u107 u108 u109 u110 u111 u112 u113 u114 u115 u116 u117 u118 u119 u120 u121 u122 u123 u124 u125 u126 u127 u128 u129 u130 u131 u132 u133 : Value) (n5 : n ≤ 5000) (m5 : m ≤ 5000) (hc : n ≤ c) (hd : m ≤ d) (w00 w : World) (B0 : Below w00.heap.size w00 w) (p_0 : w.heap[p]? = some (.cells (twv s A n c x y z u) 58 (0, 0))) (q_0 : w.heap[q]? = some (.cells (s2.cs D m d) 24 (0, 0))) (s_0 : w.heap[g]? = some (.cells (s.cs A n c) 24 (0, 0))) (hA : DataAt w A n b o xs) (hD : DataAt w D m b2 o2 ys) (n1_0 : Ans s k1 e1 w) (n2_0 : Ans s k2 e2 w) (n3_0 : Ans s k3 e3 w) (n4_0 : Ans s k4 e4 w) (n5_0 : Ans s k5 e5 w) (n6_0 : Ans s k6 e6 w) (n7_0 : Ans s k7 e7 w) (K : Act → World → Prop) (hK : ∀ a w, (tl 12 bd).wp Try.prog (bodyPost Try.prog Try.f14 (fun e w' => e = .returned (.bool true) ∧ Below w00.heap.size w00 w')) a w → K a w) : (rg 12 bd).wp Try.prog (Exit.then K (bodyPost Try.prog Try.f14 (fun e w' => e = .returned (.bool true) ∧ Below w00.heap.size w00 w'))) ⟨#[u0, u1, .pointer (some ⟨p, 0, none⟩), .pointer (some ⟨q, 0, none⟩), u4, .pointer (some ⟨g, 0, none⟩), .func (.func 51) #[] #[.pointer (some ⟨g, 0, none⟩)], .pointer (some ⟨k1, 0, none⟩), iv e1, .pointer (some ⟨k2, 0, none⟩), iv e2, .pointer (some ⟨k3, 0, none⟩), iv e3, .pointer (some ⟨k4, 0, none⟩), iv e4, .pointer (some ⟨k5, 0, none⟩), iv e5, .pointer (some ⟨k6, 0, none⟩), iv e6, .pointer (some ⟨k7, 0, none⟩), iv e7, u21, u22, u23, u24, u25, u26, u27, u28, u29, u30, u31, u32, u33, u34, u35, u36, u37, u38, u39, u40, u41, u42, u43, u44, u45, u46, u47, u48, u49, u50, u51, u52, u53, u54, u55, u56, u57, u58, u59, u60, u61, u62, u63, u64, u65, u66, u67, u68, u69, u70, u71, u72, u73, u74, u75, u76, u77, u78, u79, u80, u81, u82, u83, u84, u85, u86, u87, u88, u89, u90, u91, u92, u93, u94, u95, u96, u97, u98, u99, u100, u101, u102, u103, u104, u105, u106, u107, u108, u109, u110, u111, u112, u113, u114, u115, u116, u117, u118, u119, u120, u121, u122, u123, u124, u125, u126, u127, u128, u129, u130, u131, u132, u133], []⟩ w := by
  clear n5 m5 hc hd p_0 q_0 hA hD
  have S0 := Lib.hid s_0
  clear s_0
  obtain ⟨t1, A1, m1, c1, b1_, o1_, y1, x1, x2, x3, x4⟩ := n1_0
  have K1_0 := Lib.hid x1
  have V1_0 := Lib.hid x2
  have H1 := Lib.hid (And.intro x3 x4)
  clear x1 x2 x3 x4
  obtain ⟨t2, A2, m2, c2, b2_, o2_, y2, x1, x2, x3, x4⟩ := n2_0
  have K2_0 := Lib.hid x1
  have V2_0 := Lib.hid x2
  have H2 := Lib.hid (And.intro x3 x4)
  clear x1 x2 x3 x4
  obtain ⟨t3, A3, m3, c3, b3_, o3_, y3, x1, x2, x3, x4⟩ := n3_0
  have K3_0 := Lib.hid x1
  have V3_0 := Lib.hid x2
  have H3 := Lib.hid (And.intro x3 x4)
  clear x1 x2 x3 x4
  obtain ⟨t4, A4, m4, c4, b4_, o4_, y4, x1, x2, x3, x4⟩ := n4_0
  have K4_0 := Lib.hid x1
  have V4_0 := Lib.hid x2
  have H4 := Lib.hid (And.intro x3 x4)
  clear x1 x2 x3 x4
  obtain ⟨t5, A5, m5, c5, b5_, o5_, y5, x1, x2, x3, x4⟩ := n5_0
  have K5_0 := Lib.hid x1
  have V5_0 := Lib.hid x2
  have H5 := Lib.hid (And.intro x3 x4)
  clear x1 x2 x3 x4
  obtain ⟨t6, A6, m6, c6, b6_, o6_, y6, x1, x2, x3, x4⟩ := n6_0
  have K6_0 := Lib.hid x1
  have V6_0 := Lib.hid x2
  have H6 := Lib.hid (And.intro x3 x4)
  clear x1 x2 x3 x4
  obtain ⟨t7, A7, m7, c7, b7_, o7_, y7, x1, x2, x3, x4⟩ := n7_0
  have K7_0 := Lib.hid x1
  have V7_0 := Lib.hid x2
  have H7 := Lib.hid (And.intro x3 x4)
  clear x1 x2 x3 x4
  conv at hK => enter [a, w, 1, 2]; whnf
  conv => arg 2; whnf
  go_wp2_with (first
    | (refine wpList_load_row rfl 24 (.tmp 7) rfl k1 rfl 24 _ (0, 0) _ K1_0.out Try.underlying24 rfl (S.i24 _ _ _ _) ?_)
    | (go_at_call 51; (with_reducible refine (good_fn s t1 A A1 n c m1 c1 b1_ o1_ g y1 e1 H1.out.1 H1.out.2 _ S0.out V1_0.out).mono ?_); rintro e w1 ⟨rfl, hb1⟩; have S1 := Lib.hid (bkBelow S0.out hb1); have K1_1 := Lib.hid (bkBelow K1_0.out hb1); have K2_1 := Lib.hid (bkBelow K2_0.out hb1); have K3_1 := Lib.hid (bkBelow K3_0.out hb1); have K4_1 := Lib.hid (bkBelow K4_0.out hb1); have K5_1 := Lib.hid (bkBelow K5_0.out hb1); have K6_1 := Lib.hid (bkBelow K6_0.out hb1); have K7_1 := Lib.hid (bkBelow K7_0.out hb1); have V1_1 := Lib.hid (V1_0.out.later hb1); have V2_1 := Lib.hid (V2_0.out.later hb1); have V3_1 := Lib.hid (V3_0.out.later hb1); have V4_1 := Lib.hid (V4_0.out.later hb1); have V5_1 := Lib.hid (V5_0.out.later hb1); have V6_1 := Lib.hid (V6_0.out.later hb1); have V7_1 := Lib.hid (V7_0.out.later hb1); have B1 := bdT B0 B0.size hb1; clear S0 K1_0 K2_0 K3_0 K4_0 K5_0 K6_0 K7_0 V1_0 V2_0 V3_0 V4_0 V5_0 V6_0 V7_0)
    | (refine gdOn (by rfl) ?_; refine wpList_load_row rfl 24 (.tmp 9) rfl k2 rfl 24 _ (0, 0) _ K2_1.out Try.underlying24 rfl (S.i24 _ _ _ _) ?_)
    | (go_at_call 51; (with_reducible refine (good_fn s t2 A A2 n c m2 c2 b2_ o2_ g y2 e2 H2.out.1 H2.out.2 _ S1.out V2_1.out).mono ?_); rintro e w2 ⟨rfl, hb2⟩; have S2 := Lib.hid (bkBelow S1.out hb2); have K1_2 := Lib.hid (bkBelow K1_1.out hb2); have K2_2 := Lib.hid (bkBelow K2_1.out hb2); have K3_2 := Lib.hid (bkBelow K3_1.out hb2); have K4_2 := Lib.hid (bkBelow K4_1.out hb2); have K5_2 := Lib.hid (bkBelow K5_1.out hb2); have K6_2 := Lib.hid (bkBelow K6_1.out hb2); have K7_2 := Lib.hid (bkBelow K7_1.out hb2); have V1_2 := Lib.hid (V1_1.out.later hb2); have V2_2 := Lib.hid (V2_1.out.later hb2); have V3_2 := Lib.hid (V3_1.out.later hb2); have V4_2 := Lib.hid (V4_1.out.later hb2); have V5_2 := Lib.hid (V5_1.out.later hb2); have V6_2 := Lib.hid (V6_1.out.later hb2); have V7_2 := Lib.hid (V7_1.out.later hb2); have B2 := bdT B1 B1.size hb2; clear S1 K1_1 K2_1 K3_1 K4_1 K5_1 K6_1 K7_1 V1_1 V2_1 V3_1 V4_1 V5_1 V6_1 V7_1)
    | (refine gdOn (by rfl) ?_; refine wpList_load_row rfl 24 (.tmp 11) rfl k3 rfl 24 _ (0, 0) _ K3_2.out Try.underlying24 rfl (S.i24 _ _ _ _) ?_)
    | (go_at_call 51; (with_reducible refine (good_fn s t3 A A3 n c m3 c3 b3_ o3_ g y3 e3 H3.out.1 H3.out.2 _ S2.out V3_2.out).mono ?_); rintro e w3 ⟨rfl, hb3⟩; have S3 := Lib.hid (bkBelow S2.out hb3); have K1_3 := Lib.hid (bkBelow K1_2.out hb3); have K2_3 := Lib.hid (bkBelow K2_2.out hb3); have K3_3 := Lib.hid (bkBelow K3_2.out hb3); have K4_3 := Lib.hid (bkBelow K4_2.out hb3); have K5_3 := Lib.hid (bkBelow K5_2.out hb3); have K6_3 := Lib.hid (bkBelow K6_2.out hb3); have K7_3 := Lib.hid (bkBelow K7_2.out hb3); have V1_3 := Lib.hid (V1_2.out.later hb3); have V2_3 := Lib.hid (V2_2.out.later hb3); have V3_3 := Lib.hid (V3_2.out.later hb3); have V4_3 := Lib.hid (V4_2.out.later hb3); have V5_3 := Lib.hid (V5_2.out.later hb3); have V6_3 := Lib.hid (V6_2.out.later hb3); have V7_3 := Lib.hid (V7_2.out.later hb3); have B3 := bdT B2 B2.size hb3; clear S2 K1_2 K2_2 K3_2 K4_2 K5_2 K6_2 K7_2 V1_2 V2_2 V3_2 V4_2 V5_2 V6_2 V7_2)
    | (refine gdOn (by rfl) ?_; refine wpList_load_row rfl 24 (.tmp 13) rfl k4 rfl 24 _ (0, 0) _ K4_3.out Try.underlying24 rfl (S.i24 _ _ _ _) ?_)
    | (go_at_call 51; (with_reducible refine (good_fn s t4 A A4 n c m4 c4 b4_ o4_ g y4 e4 H4.out.1 H4.out.2 _ S3.out V4_3.out).mono ?_); rintro e w4 ⟨rfl, hb4⟩; have S4 := Lib.hid (bkBelow S3.out hb4); have K1_4 := Lib.hid (bkBelow K1_3.out hb4); have K2_4 := Lib.hid (bkBelow K2_3.out hb4); have K3_4 := Lib.hid (bkBelow K3_3.out hb4); have K4_4 := Lib.hid (bkBelow K4_3.out hb4); have K5_4 := Lib.hid (bkBelow K5_3.out hb4); have K6_4 := Lib.hid (bkBelow K6_3.out hb4); have K7_4 := Lib.hid (bkBelow K7_3.out hb4); have V1_4 := Lib.hid (V1_3.out.later hb4); have V2_4 := Lib.hid (V2_3.out.later hb4); have V3_4 := Lib.hid (V3_3.out.later hb4); have V4_4 := Lib.hid (V4_3.out.later hb4); have V5_4 := Lib.hid (V5_3.out.later hb4); have V6_4 := Lib.hid (V6_3.out.later hb4); have V7_4 := Lib.hid (V7_3.out.later hb4); have B4 := bdT B3 B3.size hb4; clear S3 K1_3 K2_3 K3_3 K4_3 K5_3 K6_3 K7_3 V1_3 V2_3 V3_3 V4_3 V5_3 V6_3 V7_3)
    | (refine gdOn (by rfl) ?_; refine wpList_load_row rfl 24 (.tmp 15) rfl k5 rfl 24 _ (0, 0) _ K5_4.out Try.underlying24 rfl (S.i24 _ _ _ _) ?_)
    | (go_at_call 51; (with_reducible refine (good_fn s t5 A A5 n c m5 c5 b5_ o5_ g y5 e5 H5.out.1 H5.out.2 _ S4.out V5_4.out).mono ?_); rintro e w5 ⟨rfl, hb5⟩; have S5 := Lib.hid (bkBelow S4.out hb5); have K1_5 := Lib.hid (bkBelow K1_4.out hb5); have K2_5 := Lib.hid (bkBelow K2_4.out hb5); have K3_5 := Lib.hid (bkBelow K3_4.out hb5); have K4_5 := Lib.hid (bkBelow K4_4.out hb5); have K5_5 := Lib.hid (bkBelow K5_4.out hb5); have K6_5 := Lib.hid (bkBelow K6_4.out hb5); have K7_5 := Lib.hid (bkBelow K7_4.out hb5); have V1_5 := Lib.hid (V1_4.out.later hb5); have V2_5 := Lib.hid (V2_4.out.later hb5); have V3_5 := Lib.hid (V3_4.out.later hb5); have V4_5 := Lib.hid (V4_4.out.later hb5); have V5_5 := Lib.hid (V5_4.out.later hb5); have V6_5 := Lib.hid (V6_4.out.later hb5); have V7_5 := Lib.hid (V7_4.out.later hb5); have B5 := bdT B4 B4.size hb5; clear S4 K1_4 K2_4 K3_4 K4_4 K5_4 K6_4 K7_4 V1_4 V2_4 V3_4 V4_4 V5_4 V6_4 V7_4)
    | (refine gdOn (by rfl) ?_; refine wpList_load_row rfl 24 (.tmp 17) rfl k6 rfl 24 _ (0, 0) _ K6_5.out Try.underlying24 rfl (S.i24 _ _ _ _) ?_)
    | (go_at_call 51; (with_reducible refine (good_fn s t6 A A6 n c m6 c6 b6_ o6_ g y6 e6 H6.out.1 H6.out.2 _ S5.out V6_5.out).mono ?_); rintro e w6 ⟨rfl, hb6⟩; have S6 := Lib.hid (bkBelow S5.out hb6); have K1_6 := Lib.hid (bkBelow K1_5.out hb6); have K2_6 := Lib.hid (bkBelow K2_5.out hb6); have K3_6 := Lib.hid (bkBelow K3_5.out hb6); have K4_6 := Lib.hid (bkBelow K4_5.out hb6); have K5_6 := Lib.hid (bkBelow K5_5.out hb6); have K6_6 := Lib.hid (bkBelow K6_5.out hb6); have K7_6 := Lib.hid (bkBelow K7_5.out hb6); have V1_6 := Lib.hid (V1_5.out.later hb6); have V2_6 := Lib.hid (V2_5.out.later hb6); have V3_6 := Lib.hid (V3_5.out.later hb6); have V4_6 := Lib.hid (V4_5.out.later hb6); have V5_6 := Lib.hid (V5_5.out.later hb6); have V6_6 := Lib.hid (V6_5.out.later hb6); have V7_6 := Lib.hid (V7_5.out.later hb6); have B6 := bdT B5 B5.size hb6; clear S5 K1_5 K2_5 K3_5 K4_5 K5_5 K6_5 K7_5 V1_5 V2_5 V3_5 V4_5 V5_5 V6_5 V7_5)
    | (refine gdOn (by rfl) ?_; refine wpList_load_row rfl 24 (.tmp 19) rfl k7 rfl 24 _ (0, 0) _ K7_6.out Try.underlying24 rfl (S.i24 _ _ _ _) ?_)
    | (go_at_call 51; (with_reducible refine (good_fn s t7 A A7 n c m7 c7 b7_ o7_ g y7 e7 H7.out.1 H7.out.2 _ S6.out V7_6.out).mono ?_); rintro e w7 ⟨rfl, hb7⟩; have S7 := Lib.hid (bkBelow S6.out hb7); have K1_7 := Lib.hid (bkBelow K1_6.out hb7); have K2_7 := Lib.hid (bkBelow K2_6.out hb7); have K3_7 := Lib.hid (bkBelow K3_6.out hb7); have K4_7 := Lib.hid (bkBelow K4_6.out hb7); have K5_7 := Lib.hid (bkBelow K5_6.out hb7); have K6_7 := Lib.hid (bkBelow K6_6.out hb7); have K7_7 := Lib.hid (bkBelow K7_6.out hb7); have V1_7 := Lib.hid (V1_6.out.later hb7); have V2_7 := Lib.hid (V2_6.out.later hb7); have V3_7 := Lib.hid (V3_6.out.later hb7); have V4_7 := Lib.hid (V4_6.out.later hb7); have V5_7 := Lib.hid (V5_6.out.later hb7); have V6_7 := Lib.hid (V6_6.out.later hb7); have V7_7 := Lib.hid (V7_6.out.later hb7); have B7 := bdT B6 B6.size hb7; clear S6 K1_6 K2_6 K3_6 K4_6 K5_6 K6_6 K7_6 V1_6 V2_6 V3_6 V4_6 V5_6 V6_6 V7_6))
  go_ret
  exact ⟨rfl, B7⟩
set_option maxHeartbeats 32000000 in
set_option maxRecDepth 100000 in
theorem val_p7 (s s2 : S) (A D : Option Addr) (n c m d b o b2 o2 : Nat) (xs ys : Nat → Int) (x y z u : Int) (p q g : Nat) (k1 : Nat) (e1 : Int) (k2 : Nat) (e2 : Int) (k3 : Nat) (e3 : Int) (k4 : Nat) (e4 : Int) (k5 : Nat) (e5 : Int) (k6 : Nat) (e6 : Int) (u0 u1 u4 u19 u20 u21 u22 u23 u24 u25 u26 u27 u28 u29 u30 u31 u32 u33 u34 u35 u36 u37 u38 u39 u40 u41 u42 u43 u44 u45 u46 u47 u48 u49 u50 u51 u52 u53 u54 u55 u56 u57 u58 u59 u60 u61 u62 u63 u64 u65 u66 u67 u68 u69 u70 u71 u72 u73 u74 u75 u76 u77 u78 u79 u80 u81 u82 u83 u84 u85 u86 u87 u88 u89 u90 u91 u92 u93 u94 u95 u96 u97 u98 u99 u100 u101 u102 u103 u104 u105 u106 u107 u108 u109 u110 u111 u112 u113 u114 u115 u116 u117 u118 u119 u120 u121 u122 u123 u124 u125 u126 u127 u128 u129 u130 u131 u132 u133 : Value) (n5 : n ≤ 5000) (m5 : m ≤ 5000) (hc : n ≤ c) (hd : m ≤ d) (w00 w : World) (B0 : Below w00.heap.size w00 w) (p_0 : w.heap[p]? = some (.cells (twv s A n c x y z u) 58 (0, 0))) (q_0 : w.heap[q]? = some (.cells (s2.cs D m d) 24 (0, 0))) (s_0 : w.heap[g]? = some (.cells (s.cs A n c) 24 (0, 0))) (hA : DataAt w A n b o xs) (hD : DataAt w D m b2 o2 ys) (n1_0 : Ans s k1 e1 w) (n2_0 : Ans s k2 e2 w) (n3_0 : Ans s k3 e3 w) (n4_0 : Ans s k4 e4 w) (n5_0 : Ans s k5 e5 w) (n6_0 : Ans s k6 e6 w) (K : Act → World → Prop) (hK : ∀ a w, (tl 11 bd).wp Try.prog (bodyPost Try.prog Try.f14 (fun e w' => e = .returned (.bool true) ∧ Below w00.heap.size w00 w')) a w → K a w) : (rg 11 bd).wp Try.prog (Exit.then K (bodyPost Try.prog Try.f14 (fun e w' => e = .returned (.bool true) ∧ Below w00.heap.size w00 w'))) ⟨#[u0, u1, .pointer (some ⟨p, 0, none⟩), .pointer (some ⟨q, 0, none⟩), u4, .pointer (some ⟨g, 0, none⟩), .func (.func 51) #[] #[.pointer (some ⟨g, 0, none⟩)], .pointer (some ⟨k1, 0, none⟩), iv e1, .pointer (some ⟨k2, 0, none⟩), iv e2, .pointer (some ⟨k3, 0, none⟩), iv e3, .pointer (some ⟨k4, 0, none⟩), iv e4, .pointer (some ⟨k5, 0, none⟩), iv e5, .pointer (some ⟨k6, 0, none⟩), iv e6, u19, u20, u21, u22, u23, u24, u25, u26, u27, u28, u29, u30, u31, u32, u33, u34, u35, u36, u37, u38, u39, u40, u41, u42, u43, u44, u45, u46, u47, u48, u49, u50, u51, u52, u53, u54, u55, u56, u57, u58, u59, u60, u61, u62, u63, u64, u65, u66, u67, u68, u69, u70, u71, u72, u73, u74, u75, u76, u77, u78, u79, u80, u81, u82, u83, u84, u85, u86, u87, u88, u89, u90, u91, u92, u93, u94, u95, u96, u97, u98, u99, u100, u101, u102, u103, u104, u105, u106, u107, u108, u109, u110, u111, u112, u113, u114, u115, u116, u117, u118, u119, u120, u121, u122, u123, u124, u125, u126, u127, u128, u129, u130, u131, u132, u133], []⟩ w := by
  have RC := Lib.hid fun (W : World) (h : DataAt W A n b o xs) => good_c (good_cent s A n c b o xs n5 hc W h)
  have NN := Lib.hid (And.intro (And.intro n5 m5) (And.intro hc hd))
  clear n5 m5 hc hd
  have P0 := Lib.hid p_0
  have Q0 := Lib.hid q_0
  have S0 := Lib.hid s_0
  have D0 := Lib.hid hA
  have E0 := Lib.hid hD
  have N1_0 := Lib.hid n1_0
  have N2_0 := Lib.hid n2_0
  have N3_0 := Lib.hid n3_0
  have N4_0 := Lib.hid n4_0
  have N5_0 := Lib.hid n5_0
  have N6_0 := Lib.hid n6_0
  clear p_0 q_0 s_0 hA hD n1_0 n2_0 n3_0 n4_0 n5_0 n6_0
  conv at hK => enter [a, w, 1, 2]; whnf
  conv => arg 2; whnf
  go_upto_region 12 with (first
    | (refine wpList_load_row rfl 24 (.tmp 5) rfl g rfl 24 _ (0, 0) _ S0.out Try.underlying24 rfl (S.i24 _ _ _ _) ?_)
    | (go_at_call 57; (with_reducible refine (RC.out _ D0.out).mono ?_); rintro e w1 ⟨t, A1, m1, c1, b1_, o1_, y1, e7, rfl, X1, G1, M1, hb1⟩; have P1 := Lib.hid (bkBelow P0.out hb1); have Q1 := Lib.hid (bkBelow Q0.out hb1); have S1 := Lib.hid (bkBelow S0.out hb1); have D1 := Lib.hid (D0.out.later hb1); have E1 := Lib.hid (E0.out.later hb1); have N1_1 := Lib.hid (N1_0.out.later hb1); have N2_1 := Lib.hid (N2_0.out.later hb1); have N3_1 := Lib.hid (N3_0.out.later hb1); have N4_1 := Lib.hid (N4_0.out.later hb1); have N5_1 := Lib.hid (N5_0.out.later hb1); have N6_1 := Lib.hid (N6_0.out.later hb1); have B1 := bdT B0 B0.size hb1; have V1 := Lib.hid (X1); clear P0 Q0 S0 D0 E0 N1_0 N2_0 N3_0 N4_0 N5_0 N6_0; have HG := Lib.hid (And.intro G1 M1); clear G1 M1)
    | (refine wpList_store_row rfl 24 (.tmp 19) (.tmp 92) rfl (w1.heap.size) (t.cs A1 m1 c1) rfl rfl 24 _ (heap_alloc_new w1 (Obj.cells #[Value.string ⟨#[]⟩, Value.slice none 0 0, iv 0, iv 0, iv 0, iv 0, iv 0, iv 0, iv 0, iv 0, iv 0, iv 0, iv 0] 24)) (S.i24 _ _ _ _) (S.sz S.zero _ none _ 0 0 _ _) (S.one _ _ _ _) ?_; have K2 := below_setRow ((Below.refl w1.heap.size w1).alloc (Nat.le_refl _) (Obj.cells #[Value.string ⟨#[]⟩, Value.slice none 0 0, iv 0, iv 0, iv 0, iv 0, iv 0, iv 0, iv 0, iv 0, iv 0, iv 0, iv 0] 24)) (g := w1.heap.size) (Nat.le_refl _) (t.cs A1 m1 c1); have P2 := Lib.hid (bkBelow P1.out K2); have Q2 := Lib.hid (bkBelow Q1.out K2); have S2 := Lib.hid (bkBelow S1.out K2); have D2 := Lib.hid (D1.out.later K2); have E2 := Lib.hid (E1.out.later K2); have N1_2 := Lib.hid (N1_1.out.later K2); have N2_2 := Lib.hid (N2_1.out.later K2); have N3_2 := Lib.hid (N3_1.out.later K2); have N4_2 := Lib.hid (N4_1.out.later K2); have N5_2 := Lib.hid (N5_1.out.later K2); have N6_2 := Lib.hid (N6_1.out.later K2); have V2 := Lib.hid (V1.out.later K2); have B2 := bdT B1 B1.size K2; have K_2 := Lib.hid (setRow_heap _ _ _ (t.cs A1 m1 c1) _ _ (heap_alloc_new w1 (Obj.cells #[Value.string ⟨#[]⟩, Value.slice none 0 0, iv 0, iv 0, iv 0, iv 0, iv 0, iv 0, iv 0, iv 0, iv 0, iv 0, iv 0] 24))); clear P1 Q1 S1 D1 E1 N1_1 N2_1 N3_1 N4_1 N5_1 N6_1 V1))
  have N7_2 := Lib.hid (Ans.mk_ t A1 m1 c1 b1_ o1_ y1 K_2.out V2.out HG.out.1 HG.out.2)
  rename_i K2 hK2
  exact val_p8 s s2 A D n c m d b o b2 o2 xs ys x y z u p q g k1 e1 k2 e2 k3 e3 k4 e4 k5 e5 k6 e6 _ _ _ _ _ _ _ _ _ _ _ _ _ _ _ _ _ _ _ _ _ _ _ _ _ _ _ _ _ _ _ _ _ _ _ _ _ _ _ _ _ _ _ _ _ _ _ _ _ _ _ _ _ _ _ _ _ _ _ _ _ _ _ _ _ _ _ _ _ _ _ _ _ _ _ _ _ _ _ _ _ _ _ _ _ _ _ _ _ _ _ _ _ _ _ _ _ _ _ _ _ _ _ _ _ _ _ _ _ _ _ _ _ _ _ _ _ _ NN.out.1.1 NN.out.1.2 NN.out.2.1 NN.out.2.2 w00 _ B2 P2.out Q2.out S2.out D2.out E2.out N1_2.out N2_2.out N3_2.out N4_2.out N5_2.out N6_2.out N7_2.out K2 hK2
set_option maxHeartbeats 32000000 in
set_option maxRecDepth 100000 in
theorem val_p6 (s s2 : S) (A D : Option Addr) (n c m d b o b2 o2 : Nat) (xs ys : Nat → Int) (x y z u : Int) (p q g : Nat) (k1 : Nat) (e1 : Int) (k2 : Nat) (e2 : Int) (k3 : Nat) (e3 : Int) (k4 : Nat) (e4 : Int) (k5 : Nat) (e5 : Int) (u0 u1 u4 u17 u18 u19 u20 u21 u22 u23 u24 u25 u26 u27 u28 u29 u30 u31 u32 u33 u34 u35 u36 u37 u38 u39 u40 u41 u42 u43 u44 u45 u46 u47 u48 u49 u50 u51 u52 u53 u54 u55 u56 u57 u58 u59 u60 u61 u62 u63 u64 u65 u66 u67 u68 u69 u70 u71 u72 u73 u74 u75 u76 u77 u78 u79 u80 u81 u82 u83 u84 u85 u86 u87 u88 u89 u90 u91 u92 u93 u94 u95 u96 u97 u98 u99 u100 u101 u102 u103 u104 u105 u106 u107 u108 u109 u110 u111 u112 u113 u114 u115 u116 u117 u118 u119 u120 u121 u122 u123 u124 u125 u126 u127 u128 u129 u130 u131 u132 u133 : Value) (n5 : n ≤ 5000) (m5 : m ≤ 5000) (hc : n ≤ c) (hd : m ≤ d) (w00 w : World) (B0 : Below w00.heap.size w00 w) (p_0 : w.heap[p]? = some (.cells (twv s A n c x y z u) 58 (0, 0))) (q_0 : w.heap[q]? = some (.cells (s2.cs D m d) 24 (0, 0))) (s_0 : w.heap[g]? = some (.cells (s.cs A n c) 24 (0, 0))) (hA : DataAt w A n b o xs) (hD : DataAt w D m b2 o2 ys) (n1_0 : Ans s k1 e1 w) (n2_0 : Ans s k2 e2 w) (n3_0 : Ans s k3 e3 w) (n4_0 : Ans s k4 e4 w) (n5_0 : Ans s k5 e5 w) (K : Act → World → Prop) (hK : ∀ a w, (tl 10 bd).wp Try.prog (bodyPost Try.prog Try.f14 (fun e w' => e = .returned (.bool true) ∧ Below w00.heap.size w00 w')) a w → K a w) : (rg 10 bd).wp Try.prog (Exit.then K (bodyPost Try.prog Try.f14 (fun e w' => e = .returned (.bool true) ∧ Below w00.heap.size w00 w'))) ⟨#[u0, u1, .pointer (some ⟨p, 0, none⟩), .pointer (some ⟨q, 0, none⟩), u4, .pointer (some ⟨g, 0, none⟩), .func (.func 51) #[] #[.pointer (some ⟨g, 0, none⟩)], .pointer (some ⟨k1, 0, none⟩), iv e1, .pointer (some ⟨k2, 0, none⟩), iv e2, .pointer (some ⟨k3, 0, none⟩), iv e3, .pointer (some ⟨k4, 0, none⟩), iv e4, .pointer (some ⟨k5, 0, none⟩), iv e5, u17, u18, u19, u20, u21, u22, u23, u24, u25, u26, u27, u28, u29, u30, u31, u32, u33, u34, u35, u36, u37, u38, u39, u40, u41, u42, u43, u44, u45, u46, u47, u48, u49, u50, u51, u52, u53, u54, u55, u56, u57, u58, u59, u60, u61, u62, u63, u64, u65, u66, u67, u68, u69, u70, u71, u72, u73, u74, u75, u76, u77, u78, u79, u80, u81, u82, u83, u84, u85, u86, u87, u88, u89, u90, u91, u92, u93, u94, u95, u96, u97, u98, u99, u100, u101, u102, u103, u104, u105, u106, u107, u108, u109, u110, u111, u112, u113, u114, u115, u116, u117, u118, u119, u120, u121, u122, u123, u124, u125, u126, u127, u128, u129, u130, u131, u132, u133], []⟩ w := by
  have RC := Lib.hid fun (W : World) (h : DataAt W A n b o xs) => good_c (good_draw s A n c b o xs x y z u n5 hc W h)
  have NN := Lib.hid (And.intro (And.intro n5 m5) (And.intro hc hd))
  clear n5 m5 hc hd
  have P0 := Lib.hid p_0
  have Q0 := Lib.hid q_0
  have S0 := Lib.hid s_0
  have D0 := Lib.hid hA
  have E0 := Lib.hid hD
  have N1_0 := Lib.hid n1_0
  have N2_0 := Lib.hid n2_0
  have N3_0 := Lib.hid n3_0
  have N4_0 := Lib.hid n4_0
  have N5_0 := Lib.hid n5_0
  clear p_0 q_0 s_0 hA hD n1_0 n2_0 n3_0 n4_0 n5_0
  have z13 := (bkCell P0.out 13).trans (show _ = some (iv x) from rfl)
  have z14 := (bkCell P0.out 14).trans (show _ = some (iv y) from rfl)
  have z15 := (bkCell P0.out 15).trans (show _ = some (iv z) from rfl)
  have z16 := (bkCell P0.out 16).trans (show _ = some (iv u) from rfl)
  conv at hK => enter [a, w, 1, 2]; whnf
  conv => arg 2; whnf
  go_upto_region 11 with (first
    | (refine wpList_load_row rfl 24 (.tmp 5) rfl g rfl 24 _ (0, 0) _ S0.out Try.underlying24 rfl (S.i24 _ _ _ _) ?_)
    | (go_at_call 56; (with_reducible refine (RC.out _ D0.out).mono ?_); rintro e w1 ⟨t, A1, m1, c1, b1_, o1_, y1, e6, rfl, X1, G1, M1, hb1⟩; have P1 := Lib.hid (bkBelow P0.out hb1); have Q1 := Lib.hid (bkBelow Q0.out hb1); have S1 := Lib.hid (bkBelow S0.out hb1); have D1 := Lib.hid (D0.out.later hb1); have E1 := Lib.hid (E0.out.later hb1); have N1_1 := Lib.hid (N1_0.out.later hb1); have N2_1 := Lib.hid (N2_0.out.later hb1); have N3_1 := Lib.hid (N3_0.out.later hb1); have N4_1 := Lib.hid (N4_0.out.later hb1); have N5_1 := Lib.hid (N5_0.out.later hb1); have B1 := bdT B0 B0.size hb1; have V1 := Lib.hid (X1); clear P0 Q0 S0 D0 E0 N1_0 N2_0 N3_0 N4_0 N5_0; have HG := Lib.hid (And.intro G1 M1); clear G1 M1)
    | (refine wpList_store_row rfl 24 (.tmp 17) (.tmp 87) rfl (w1.heap.size) (t.cs A1 m1 c1) rfl rfl 24 _ (heap_alloc_new w1 (Obj.cells #[Value.string ⟨#[]⟩, Value.slice none 0 0, iv 0, iv 0, iv 0, iv 0, iv 0, iv 0, iv 0, iv 0, iv 0, iv 0, iv 0] 24)) (S.i24 _ _ _ _) (S.sz S.zero _ none _ 0 0 _ _) (S.one _ _ _ _) ?_; have K2 := below_setRow ((Below.refl w1.heap.size w1).alloc (Nat.le_refl _) (Obj.cells #[Value.string ⟨#[]⟩, Value.slice none 0 0, iv 0, iv 0, iv 0, iv 0, iv 0, iv 0, iv 0, iv 0, iv 0, iv 0, iv 0] 24)) (g := w1.heap.size) (Nat.le_refl _) (t.cs A1 m1 c1); have P2 := Lib.hid (bkBelow P1.out K2); have Q2 := Lib.hid (bkBelow Q1.out K2); have S2 := Lib.hid (bkBelow S1.out K2); have D2 := Lib.hid (D1.out.later K2); have E2 := Lib.hid (E1.out.later K2); have N1_2 := Lib.hid (N1_1.out.later K2); have N2_2 := Lib.hid (N2_1.out.later K2); have N3_2 := Lib.hid (N3_1.out.later K2); have N4_2 := Lib.hid (N4_1.out.later K2); have N5_2 := Lib.hid (N5_1.out.later K2); have V2 := Lib.hid (V1.out.later K2); have B2 := bdT B1 B1.size K2; have K_2 := Lib.hid (setRow_heap _ _ _ (t.cs A1 m1 c1) _ _ (heap_alloc_new w1 (Obj.cells #[Value.string ⟨#[]⟩, Value.slice none 0 0, iv 0, iv 0, iv 0, iv 0, iv 0, iv 0, iv 0, iv 0, iv 0, iv 0, iv 0] 24))); clear P1 Q1 S1 D1 E1 N1_1 N2_1 N3_1 N4_1 N5_1 V1))
  have N6_2 := Lib.hid (Ans.mk_ t A1 m1 c1 b1_ o1_ y1 K_2.out V2.out HG.out.1 HG.out.2)
  rename_i K2 hK2
  exact val_p7 s s2 A D n c m d b o b2 o2 xs ys x y z u p q g k1 e1 k2 e2 k3 e3 k4 e4 k5 e5 _ _ _ _ _ _ _ _ _ _ _ _ _ _ _ _ _ _ _ _ _ _ _ _ _ _ _ _ _ _ _ _ _ _ _ _ _ _ _ _ _ _ _ _ _ _ _ _ _ _ _ _ _ _ _ _ _ _ _ _ _ _ _ _ _ _ _ _ _ _ _ _ _ _ _ _ _ _ _ _ _ _ _ _ _ _ _ _ _ _ _ _ _ _ _ _ _ _ _ _ _ _ _ _ _ _ _ _ _ _ _ _ _ _ _ _ _ _ _ _ NN.out.1.1 NN.out.1.2 NN.out.2.1 NN.out.2.2 w00 _ B2 P2.out Q2.out S2.out D2.out E2.out N1_2.out N2_2.out N3_2.out N4_2.out N5_2.out N6_2.out K2 hK2
set_option maxHeartbeats 32000000 in
set_option maxRecDepth 100000 in
theorem val_p5 (s s2 : S) (A D : Option Addr) (n c m d b o b2 o2 : Nat) (xs ys : Nat → Int) (x y z u : Int) (p q g : Nat) (k1 : Nat) (e1 : Int) (k2 : Nat) (e2 : Int) (k3 : Nat) (e3 : Int) (k4 : Nat) (e4 : Int) (u0 u1 u4 u15 u16 u17 u18 u19 u20 u21 u22 u23 u24 u25 u26 u27 u28 u29 u30 u31 u32 u33 u34 u35 u36 u37 u38 u39 u40 u41 u42 u43 u44 u45 u46 u47 u48 u49 u50 u51 u52 u53 u54 u55 u56 u57 u58 u59 u60 u61 u62 u63 u64 u65 u66 u67 u68 u69 u70 u71 u72 u73 u74 u75 u76 u77 u78 u79 u80 u81 u82 u83 u84 u85 u86 u87 u88 u89 u90 u91 u92 u93 u94 u95 u96 u97 u98 u99 u100 u101 u102 u103 u104 u105 u106 u107 u108 u109 u110 u111 u112 u113 u114 u115 u116 u117 u118 u119 u120 u121 u122 u123 u124 u125 u126 u127 u128 u129 u130 u131 u132 u133 : Value) (n5 : n ≤ 5000) (m5 : m ≤ 5000) (hc : n ≤ c) (hd : m ≤ d) (w00 w : World) (B0 : Below w00.heap.size w00 w) (p_0 : w.heap[p]? = some (.cells (twv s A n c x y z u) 58 (0, 0))) (q_0 : w.heap[q]? = some (.cells (s2.cs D m d) 24 (0, 0))) (s_0 : w.heap[g]? = some (.cells (s.cs A n c) 24 (0, 0))) (hA : DataAt w A n b o xs) (hD : DataAt w D m b2 o2 ys) (n1_0 : Ans s k1 e1 w) (n2_0 : Ans s k2 e2 w) (n3_0 : Ans s k3 e3 w) (n4_0 : Ans s k4 e4 w) (K : Act → World → Prop) (hK : ∀ a w, (tl 9 bd).wp Try.prog (bodyPost Try.prog Try.f14 (fun e w' => e = .returned (.bool true) ∧ Below w00.heap.size w00 w')) a w → K a w) : (rg 9 bd).wp Try.prog (Exit.then K (bodyPost Try.prog Try.f14 (fun e w' => e = .returned (.bool true) ∧ Below w00.heap.size w00 w'))) ⟨#[u0, u1, .pointer (some ⟨p, 0, none⟩), .pointer (some ⟨q, 0, none⟩), u4, .pointer (some ⟨g, 0, none⟩), .func (.func 51) #[] #[.pointer (some ⟨g, 0, none⟩)], .pointer (some ⟨k1, 0, none⟩), iv e1, .pointer (some ⟨k2, 0, none⟩), iv e2, .pointer (some ⟨k3, 0, none⟩), iv e3, .pointer (some ⟨k4, 0, none⟩), iv e4, u15, u16, u17, u18, u19, u20, u21, u22, u23, u24, u25, u26, u27, u28, u29, u30, u31, u32, u33, u34, u35, u36, u37, u38, u39, u40, u41, u42, u43, u44, u45, u46, u47, u48, u49, u50, u51, u52, u53, u54, u55, u56, u57, u58, u59, u60, u61, u62, u63, u64, u65, u66, u67, u68, u69, u70, u71, u72, u73, u74, u75, u76, u77, u78, u79, u80, u81, u82, u83, u84, u85, u86, u87, u88, u89, u90, u91, u92, u93, u94, u95, u96, u97, u98, u99, u100, u101, u102, u103, u104, u105, u106, u107, u108, u109, u110, u111, u112, u113, u114, u115, u116, u117, u118, u119, u120, u121, u122, u123, u124, u125, u126, u127, u128, u129, u130, u131, u132, u133], []⟩ w := by
  have RC := Lib.hid fun (W : World) (h : DataAt W A n b o xs) (k : DataAt W D m b2 o2 ys) => good_c (good_mix s s2 A D n c m d b o b2 o2 xs ys x n5 m5 hc hd W h k)
  have NN := Lib.hid (And.intro (And.intro n5 m5) (And.intro hc hd))
  clear n5 m5 hc hd
  have P0 := Lib.hid p_0
  have Q0 := Lib.hid q_0
  have S0 := Lib.hid s_0
  have D0 := Lib.hid hA
  have E0 := Lib.hid hD
  have N1_0 := Lib.hid n1_0
  have N2_0 := Lib.hid n2_0
  have N3_0 := Lib.hid n3_0
  have N4_0 := Lib.hid n4_0
  clear p_0 q_0 s_0 hA hD n1_0 n2_0 n3_0 n4_0
  have z13 := (bkCell P0.out 13).trans (show _ = some (iv x) from rfl)
  conv at hK => enter [a, w, 1, 2]; whnf
  conv => arg 2; whnf
  go_upto_region 10 with (first
    | (refine wpList_load_row rfl 24 (.tmp 5) rfl g rfl 24 _ (0, 0) _ S0.out Try.underlying24 rfl (S.i24 _ _ _ _) ?_)
    | (refine wpList_load_row rfl 24 (.tmp 3) rfl q rfl 24 _ (0, 0) _ Q0.out Try.underlying24 rfl (S.i24 _ _ _ _) ?_)
    | (go_at_call 55; (with_reducible refine (RC.out _ D0.out E0.out).mono ?_); rintro e w1 ⟨t, A1, m1, c1, b1_, o1_, y1, e5, rfl, X1, G1, M1, hb1⟩; have P1 := Lib.hid (bkBelow P0.out hb1); have Q1 := Lib.hid (bkBelow Q0.out hb1); have S1 := Lib.hid (bkBelow S0.out hb1); have D1 := Lib.hid (D0.out.later hb1); have E1 := Lib.hid (E0.out.later hb1); have N1_1 := Lib.hid (N1_0.out.later hb1); have N2_1 := Lib.hid (N2_0.out.later hb1); have N3_1 := Lib.hid (N3_0.out.later hb1); have N4_1 := Lib.hid (N4_0.out.later hb1); have B1 := bdT B0 B0.size hb1; have V1 := Lib.hid (X1); clear P0 Q0 S0 D0 E0 N1_0 N2_0 N3_0 N4_0; have HG := Lib.hid (And.intro G1 M1); clear G1 M1)
    | (refine wpList_store_row rfl 24 (.tmp 15) (.tmp 74) rfl (w1.heap.size) (t.cs A1 m1 c1) rfl rfl 24 _ (heap_alloc_new w1 (Obj.cells #[Value.string ⟨#[]⟩, Value.slice none 0 0, iv 0, iv 0, iv 0, iv 0, iv 0, iv 0, iv 0, iv 0, iv 0, iv 0, iv 0] 24)) (S.i24 _ _ _ _) (S.sz S.zero _ none _ 0 0 _ _) (S.one _ _ _ _) ?_; have K2 := below_setRow ((Below.refl w1.heap.size w1).alloc (Nat.le_refl _) (Obj.cells #[Value.string ⟨#[]⟩, Value.slice none 0 0, iv 0, iv 0, iv 0, iv 0, iv 0, iv 0, iv 0, iv 0, iv 0, iv 0, iv 0] 24)) (g := w1.heap.size) (Nat.le_refl _) (t.cs A1 m1 c1); have P2 := Lib.hid (bkBelow P1.out K2); have Q2 := Lib.hid (bkBelow Q1.out K2); have S2 := Lib.hid (bkBelow S1.out K2); have D2 := Lib.hid (D1.out.later K2); have E2 := Lib.hid (E1.out.later K2); have N1_2 := Lib.hid (N1_1.out.later K2); have N2_2 := Lib.hid (N2_1.out.later K2); have N3_2 := Lib.hid (N3_1.out.later K2); have N4_2 := Lib.hid (N4_1.out.later K2); have V2 := Lib.hid (V1.out.later K2); have B2 := bdT B1 B1.size K2; have K_2 := Lib.hid (setRow_heap _ _ _ (t.cs A1 m1 c1) _ _ (heap_alloc_new w1 (Obj.cells #[Value.string ⟨#[]⟩, Value.slice none 0 0, iv 0, iv 0, iv 0, iv 0, iv 0, iv 0, iv 0, iv 0, iv 0, iv 0, iv 0] 24))); clear P1 Q1 S1 D1 E1 N1_1 N2_1 N3_1 N4_1 V1))
  have N5_2 := Lib.hid (Ans.mk_ t A1 m1 c1 b1_ o1_ y1 K_2.out V2.out HG.out.1 HG.out.2)
  rename_i K2 hK2
  exact val_p6 s s2 A D n c m d b o b2 o2 xs ys x y z u p q g k1 e1 k2 e2 k3 e3 k4 e4 _ _ _ _ _ _ _ _ _ _ _ _ _ _ _ _ _ _ _ _ _ _ _ _ _ _ _ _ _ _ _ _ _ _ _ _ _ _ _ _ _ _ _ _ _ _ _ _ _ _ _ _ _ _ _ _ _ _ _ _ _ _ _ _ _ _ _ _ _ _ _ _ _ _ _ _ _ _ _ _ _ _ _ _ _ _ _ _ _ _ _ _ _ _ _ _ _ _ _ _ _ _ _ _ _ _ _ _ _ _ _ _ _ _ _ _ _ _ _ _ _ _ NN.out.1.1 NN.out.1.2 NN.out.2.1 NN.out.2.2 w00 _ B2 P2.out Q2.out S2.out D2.out E2.out N1_2.out N2_2.out N3_2.out N4_2.out N5_2.out K2 hK2
set_option maxHeartbeats 32000000 in
set_option maxRecDepth 100000 in
theorem val_p4 (s s2 : S) (A D : Option Addr) (n c m d b o b2 o2 : Nat) (xs ys : Nat → Int) (x y z u : Int) (p q g : Nat) (k1 : Nat) (e1 : Int) (k2 : Nat) (e2 : Int) (k3 : Nat) (e3 : Int) (u0 u1 u4 u13 u14 u15 u16 u17 u18 u19 u20 u21 u22 u23 u24 u25 u26 u27 u28 u29 u30 u31 u32 u33 u34 u35 u36 u37 u38 u39 u40 u41 u42 u43 u44 u45 u46 u47 u48 u49 u50 u51 u52 u53 u54 u55 u56 u57 u58 u59 u60 u61 u62 u63 u64 u65 u66 u67 u68 u69 u70 u71 u72 u73 u74 u75 u76 u77 u78 u79 u80 u81 u82 u83 u84 u85 u86 u87 u88 u89 u90 u91 u92 u93 u94 u95 u96 u97 u98 u99 u100 u101 u102 u103 u104 u105 u106 u107 u108 u109 u110 u111 u112 u113 u114 u115 u116 u117 u118 u119 u120 u121 u122 u123 u124 u125 u126 u127 u128 u129 u130 u131 u132 u133 : Value) (n5 : n ≤ 5000) (m5 : m ≤ 5000) (hc : n ≤ c) (hd : m ≤ d) (w00 w : World) (B0 : Below w00.heap.size w00 w) (p_0 : w.heap[p]? = some (.cells (twv s A n c x y z u) 58 (0, 0))) (q_0 : w.heap[q]? = some (.cells (s2.cs D m d) 24 (0, 0))) (s_0 : w.heap[g]? = some (.cells (s.cs A n c) 24 (0, 0))) (hA : DataAt w A n b o xs) (hD : DataAt w D m b2 o2 ys) (n1_0 : Ans s k1 e1 w) (n2_0 : Ans s k2 e2 w) (n3_0 : Ans s k3 e3 w) (K : Act → World → Prop) (hK : ∀ a w, (tl 8 bd).wp Try.prog (bodyPost Try.prog Try.f14 (fun e w' => e = .returned (.bool true) ∧ Below w00.heap.size w00 w')) a w → K a w) : (rg 8 bd).wp Try.prog (Exit.then K (bodyPost Try.prog Try.f14 (fun e w' => e = .returned (.bool true) ∧ Below w00.heap.size w00 w'))) ⟨#[u0, u1, .pointer (some ⟨p, 0, none⟩), .pointer (some ⟨q, 0, none⟩), u4, .pointer (some ⟨g, 0, none⟩), .func (.func 51) #[] #[.pointer (some ⟨g, 0, none⟩)], .pointer (some ⟨k1, 0, none⟩), iv e1, .pointer (some ⟨k2, 0, none⟩), iv e2, .pointer (some ⟨k3, 0, none⟩), iv e3, u13, u14, u15, u16, u17, u18, u19, u20, u21, u22, u23, u24, u25, u26, u27, u28, u29, u30, u31, u32, u33, u34, u35, u36, u37, u38, u39, u40, u41, u42, u43, u44, u45, u46, u47, u48, u49, u50, u51, u52, u53, u54, u55, u56, u57, u58, u59, u60, u61, u62, u63, u64, u65, u66, u67, u68, u69, u70, u71, u72, u73, u74, u75, u76, u77, u78, u79, u80, u81, u82, u83, u84, u85, u86, u87, u88, u89, u90, u91, u92, u93, u94, u95, u96, u97, u98, u99, u100, u101, u102, u103, u104, u105, u106, u107, u108, u109, u110, u111, u112, u113, u114, u115, u116, u117, u118, u119, u120, u121, u122, u123, u124, u125, u126, u127, u128, u129, u130, u131, u132, u133], []⟩ w := by
  have RC := Lib.hid fun (W : World) (h : DataAt W A n b o xs) => good_c (good_norm s A n c b o xs n5 hc W h)
  have NN := Lib.hid (And.intro (And.intro n5 m5) (And.intro hc hd))
  clear n5 m5 hc hd
  have P0 := Lib.hid p_0
  have Q0 := Lib.hid q_0
  have S0 := Lib.hid s_0
  have D0 := Lib.hid hA
  have E0 := Lib.hid hD
  have N1_0 := Lib.hid n1_0
  have N2_0 := Lib.hid n2_0
  have N3_0 := Lib.hid n3_0
  clear p_0 q_0 s_0 hA hD n1_0 n2_0 n3_0
  conv at hK => enter [a, w, 1, 2]; whnf
  conv => arg 2; whnf
  go_upto_region 9 with (first
    | (refine wpList_load_row rfl 24 (.tmp 5) rfl g rfl 24 _ (0, 0) _ S0.out Try.underlying24 rfl (S.i24 _ _ _ _) ?_)
    | (go_at_call 54; (with_reducible refine (RC.out _ D0.out).mono ?_); rintro e w1 ⟨t, A1, m1, c1, b1_, o1_, y1, e4, rfl, X1, G1, M1, hb1⟩; have P1 := Lib.hid (bkBelow P0.out hb1); have Q1 := Lib.hid (bkBelow Q0.out hb1); have S1 := Lib.hid (bkBelow S0.out hb1); have D1 := Lib.hid (D0.out.later hb1); have E1 := Lib.hid (E0.out.later hb1); have N1_1 := Lib.hid (N1_0.out.later hb1); have N2_1 := Lib.hid (N2_0.out.later hb1); have N3_1 := Lib.hid (N3_0.out.later hb1); have B1 := bdT B0 B0.size hb1; have V1 := Lib.hid (X1); clear P0 Q0 S0 D0 E0 N1_0 N2_0 N3_0; have HG := Lib.hid (And.intro G1 M1); clear G1 M1)
    | (refine wpList_store_row rfl 24 (.tmp 13) (.tmp 66) rfl (w1.heap.size) (t.cs A1 m1 c1) rfl rfl 24 _ (heap_alloc_new w1 (Obj.cells #[Value.string ⟨#[]⟩, Value.slice none 0 0, iv 0, iv 0, iv 0, iv 0, iv 0, iv 0, iv 0, iv 0, iv 0, iv 0, iv 0] 24)) (S.i24 _ _ _ _) (S.sz S.zero _ none _ 0 0 _ _) (S.one _ _ _ _) ?_; have K2 := below_setRow ((Below.refl w1.heap.size w1).alloc (Nat.le_refl _) (Obj.cells #[Value.string ⟨#[]⟩, Value.slice none 0 0, iv 0, iv 0, iv 0, iv 0, iv 0, iv 0, iv 0, iv 0, iv 0, iv 0, iv 0] 24)) (g := w1.heap.size) (Nat.le_refl _) (t.cs A1 m1 c1); have P2 := Lib.hid (bkBelow P1.out K2); have Q2 := Lib.hid (bkBelow Q1.out K2); have S2 := Lib.hid (bkBelow S1.out K2); have D2 := Lib.hid (D1.out.later K2); have E2 := Lib.hid (E1.out.later K2); have N1_2 := Lib.hid (N1_1.out.later K2); have N2_2 := Lib.hid (N2_1.out.later K2); have N3_2 := Lib.hid (N3_1.out.later K2); have V2 := Lib.hid (V1.out.later K2); have B2 := bdT B1 B1.size K2; have K_2 := Lib.hid (setRow_heap _ _ _ (t.cs A1 m1 c1) _ _ (heap_alloc_new w1 (Obj.cells #[Value.string ⟨#[]⟩, Value.slice none 0 0, iv 0, iv 0, iv 0, iv 0, iv 0, iv 0, iv 0, iv 0, iv 0, iv 0, iv 0] 24))); clear P1 Q1 S1 D1 E1 N1_1 N2_1 N3_1 V1))
  have N4_2 := Lib.hid (Ans.mk_ t A1 m1 c1 b1_ o1_ y1 K_2.out V2.out HG.out.1 HG.out.2)
  rename_i K2 hK2
  exact val_p5 s s2 A D n c m d b o b2 o2 xs ys x y z u p q g k1 e1 k2 e2 k3 e3 _ _ _ _ _ _ _ _ _ _ _ _ _ _ _ _ _ _ _ _ _ _ _ _ _ _ _ _ _ _ _ _ _ _ _ _ _ _ _ _ _ _ _ _ _ _ _ _ _ _ _ _ _ _ _ _ _ _ _ _ _ _ _ _ _ _ _ _ _ _ _ _ _ _ _ _ _ _ _ _ _ _ _ _ _ _ _ _ _ _ _ _ _ _ _ _ _ _ _ _ _ _ _ _ _ _ _ _ _ _ _ _ _ _ _ _ _ _ _ _ _ _ _ _ NN.out.1.1 NN.out.1.2 NN.out.2.1 NN.out.2.2 w00 _ B2 P2.out Q2.out S2.out D2.out E2.out N1_2.out N2_2.out N3_2.out N4_2.out K2 hK2
set_option maxHeartbeats 32000000 in
set_option maxRecDepth 100000 in
theorem val_p3 (s s2 : S) (A D : Option Addr) (n c m d b o b2 o2 : Nat) (xs ys : Nat → Int) (x y z u : Int) (p q g : Nat) (k1 : Nat) (e1 : Int) (k2 : Nat) (e2 : Int) (u0 u1 u4 u11 u12 u13 u14 u15 u16 u17 u18 u19 u20 u21 u22 u23 u24 u25 u26 u27 u28 u29 u30 u31 u32 u33 u34 u35 u36 u37 u38 u39 u40 u41 u42 u43 u44 u45 u46 u47 u48 u49 u50 u51 u52 u53 u54 u55 u56 u57 u58 u59 u60 u61 u62 u63 u64 u65 u66 u67 u68 u69 u70 u71 u72 u73 u74 u75 u76 u77 u78 u79 u80 u81 u82 u83 u84 u85 u86 u87 u88 u89 u90 u91 u92 u93 u94 u95 u96 u97 u98 u99 u100 u101 u102 u103 u104 u105 u106 u107 u108 u109 u110 u111 u112 u113 u114 u115 u116 u117 u118 u119 u120 u121 u122 u123 u124 u125 u126 u127 u128 u129 u130 u131 u132 u133 : Value) (n5 : n ≤ 5000) (m5 : m ≤ 5000) (hc : n ≤ c) (hd : m ≤ d) (w00 w : World) (B0 : Below w00.heap.size w00 w) (p_0 : w.heap[p]? = some (.cells (twv s A n c x y z u) 58 (0, 0))) (q_0 : w.heap[q]? = some (.cells (s2.cs D m d) 24 (0, 0))) (s_0 : w.heap[g]? = some (.cells (s.cs A n c) 24 (0, 0))) (hA : DataAt w A n b o xs) (hD : DataAt w D m b2 o2 ys) (n1_0 : Ans s k1 e1 w) (n2_0 : Ans s k2 e2 w) (K : Act → World → Prop) (hK : ∀ a w, (tl 7 bd).wp Try.prog (bodyPost Try.prog Try.f14 (fun e w' => e = .returned (.bool true) ∧ Below w00.heap.size w00 w')) a w → K a w) : (rg 7 bd).wp Try.prog (Exit.then K (bodyPost Try.prog Try.f14 (fun e w' => e = .returned (.bool true) ∧ Below w00.heap.size w00 w'))) ⟨#[u0, u1, .pointer (some ⟨p, 0, none⟩), .pointer (some ⟨q, 0, none⟩), u4, .pointer (some ⟨g, 0, none⟩), .func (.func 51) #[] #[.pointer (some ⟨g, 0, none⟩)], .pointer (some ⟨k1, 0, none⟩), iv e1, .pointer (some ⟨k2, 0, none⟩), iv e2, u11, u12, u13, u14, u15, u16, u17, u18, u19, u20, u21, u22, u23, u24, u25, u26, u27, u28, u29, u30, u31, u32, u33, u34, u35, u36, u37, u38, u39, u40, u41, u42, u43, u44, u45, u46, u47, u48, u49, u50, u51, u52, u53, u54, u55, u56, u57, u58, u59, u60, u61, u62, u63, u64, u65, u66, u67, u68, u69, u70, u71, u72, u73, u74, u75, u76, u77, u78, u79, u80, u81, u82, u83, u84, u85, u86, u87, u88, u89, u90, u91, u92, u93, u94, u95, u96, u97, u98, u99, u100, u101, u102, u103, u104, u105, u106, u107, u108, u109, u110, u111, u112, u113, u114, u115, u116, u117, u118, u119, u120, u121, u122, u123, u124, u125, u126, u127, u128, u129, u130, u131, u132, u133], []⟩ w := by
  have RC := Lib.hid fun (W : World) (h : DataAt W A n b o xs) => good_c (good_cross s A n c b o xs x n5 hc W h)
  have NN := Lib.hid (And.intro (And.intro n5 m5) (And.intro hc hd))
  clear n5 m5 hc hd
  have P0 := Lib.hid p_0
  have Q0 := Lib.hid q_0
  have S0 := Lib.hid s_0
  have D0 := Lib.hid hA
  have E0 := Lib.hid hD
  have N1_0 := Lib.hid n1_0
  have N2_0 := Lib.hid n2_0
  clear p_0 q_0 s_0 hA hD n1_0 n2_0
  have z13 := (bkCell P0.out 13).trans (show _ = some (iv x) from rfl)
  conv at hK => enter [a, w, 1, 2]; whnf
  conv => arg 2; whnf
  go_upto_region 8 with (first
    | (refine wpList_load_row rfl 24 (.tmp 5) rfl g rfl 24 _ (0, 0) _ S0.out Try.underlying24 rfl (S.i24 _ _ _ _) ?_)
    | (go_at_call 53; (with_reducible refine (RC.out _ D0.out).mono ?_); rintro e w1 ⟨t, A1, m1, c1, b1_, o1_, y1, e3, rfl, X1, G1, M1, hb1⟩; have P1 := Lib.hid (bkBelow P0.out hb1); have Q1 := Lib.hid (bkBelow Q0.out hb1); have S1 := Lib.hid (bkBelow S0.out hb1); have D1 := Lib.hid (D0.out.later hb1); have E1 := Lib.hid (E0.out.later hb1); have N1_1 := Lib.hid (N1_0.out.later hb1); have N2_1 := Lib.hid (N2_0.out.later hb1); have B1 := bdT B0 B0.size hb1; have V1 := Lib.hid (X1); clear P0 Q0 S0 D0 E0 N1_0 N2_0; have HG := Lib.hid (And.intro G1 M1); clear G1 M1)
    | (refine wpList_store_row rfl 24 (.tmp 11) (.tmp 61) rfl (w1.heap.size) (t.cs A1 m1 c1) rfl rfl 24 _ (heap_alloc_new w1 (Obj.cells #[Value.string ⟨#[]⟩, Value.slice none 0 0, iv 0, iv 0, iv 0, iv 0, iv 0, iv 0, iv 0, iv 0, iv 0, iv 0, iv 0] 24)) (S.i24 _ _ _ _) (S.sz S.zero _ none _ 0 0 _ _) (S.one _ _ _ _) ?_; have K2 := below_setRow ((Below.refl w1.heap.size w1).alloc (Nat.le_refl _) (Obj.cells #[Value.string ⟨#[]⟩, Value.slice none 0 0, iv 0, iv 0, iv 0, iv 0, iv 0, iv 0, iv 0, iv 0, iv 0, iv 0, iv 0] 24)) (g := w1.heap.size) (Nat.le_refl _) (t.cs A1 m1 c1); have P2 := Lib.hid (bkBelow P1.out K2); have Q2 := Lib.hid (bkBelow Q1.out K2); have S2 := Lib.hid (bkBelow S1.out K2); have D2 := Lib.hid (D1.out.later K2); have E2 := Lib.hid (E1.out.later K2); have N1_2 := Lib.hid (N1_1.out.later K2); have N2_2 := Lib.hid (N2_1.out.later K2); have V2 := Lib.hid (V1.out.later K2); have B2 := bdT B1 B1.size K2; have K_2 := Lib.hid (setRow_heap _ _ _ (t.cs A1 m1 c1) _ _ (heap_alloc_new w1 (Obj.cells #[Value.string ⟨#[]⟩, Value.slice none 0 0, iv 0, iv 0, iv 0, iv 0, iv 0, iv 0, iv 0, iv 0, iv 0, iv 0, iv 0] 24))); clear P1 Q1 S1 D1 E1 N1_1 N2_1 V1))
  have N3_2 := Lib.hid (Ans.mk_ t A1 m1 c1 b1_ o1_ y1 K_2.out V2.out HG.out.1 HG.out.2)
  rename_i K2 hK2
  exact val_p4 s s2 A D n c m d b o b2 o2 xs ys x y z u p q g k1 e1 k2 e2 _ _ _ _ _ _ _ _ _ _ _ _ _ _ _ _ _ _ _ _ _ _ _ _ _ _ _ _ _ _ _ _ _ _ _ _ _ _ _ _ _ _ _ _ _ _ _ _ _ _ _ _ _ _ _ _ _ _ _ _ _ _ _ _ _ _ _ _ _ _ _ _ _ _ _ _ _ _ _ _ _ _ _ _ _ _ _ _ _ _ _ _ _ _ _ _ _ _ _ _ _ _ _ _ _ _ _ _ _ _ _ _ _ _ _ _ _ _ _ _ _ _ _ _ _ _ NN.out.1.1 NN.out.1.2 NN.out.2.1 NN.out.2.2 w00 _ B2 P2.out Q2.out S2.out D2.out E2.out N1_2.out N2_2.out N3_2.out K2 hK2
set_option maxHeartbeats 32000000 in
set_option maxRecDepth 100000 in
theorem val_p2 (s s2 : S) (A D : Option Addr) (n c m d b o b2 o2 : Nat) (xs ys : Nat → Int) (x y z u : Int) (p q g : Nat) (k1 : Nat) (e1 : Int) (u0 u1 u4 u9 u10 u11 u12 u13 u14 u15 u16 u17 u18 u19 u20 u21 u22 u23 u24 u25 u26 u27 u28 u29 u30 u31 u32 u33 u34 u35 u36 u37 u38 u39 u40 u41 u42 u43 u44 u45 u46 u47 u48 u49 u50 u51 u52 u53 u54 u55 u56 u57 u58 u59 u60 u61 u62 u63 u64 u65 u66 u67 u68 u69 u70 u71 u72 u73 u74 u75 u76 u77 u78 u79 u80 u81 u82 u83 u84 u85 u86 u87 u88 u89 u90 u91 u92 u93 u94 u95 u96 u97 u98 u99 u100 u101 u102 u103 u104 u105 u106 u107 u108 u109 u110 u111 u112 u113 u114 u115 u116 u117 u118 u119 u120 u121 u122 u123 u124 u125 u126 u127 u128 u129 u130 u131 u132 u133 : Value) (n5 : n ≤ 5000) (m5 : m ≤ 5000) (hc : n ≤ c) (hd : m ≤ d) (w00 w : World) (B0 : Below w00.heap.size w00 w) (p_0 : w.heap[p]? = some (.cells (twv s A n c x y z u) 58 (0, 0))) (q_0 : w.heap[q]? = some (.cells (s2.cs D m d) 24 (0, 0))) (s_0 : w.heap[g]? = some (.cells (s.cs A n c) 24 (0, 0))) (hA : DataAt w A n b o xs) (hD : DataAt w D m b2 o2 ys) (n1_0 : Ans s k1 e1 w) (K : Act → World → Prop) (hK : ∀ a w, (tl 6 bd).wp Try.prog (bodyPost Try.prog Try.f14 (fun e w' => e = .returned (.bool true) ∧ Below w00.heap.size w00 w')) a w → K a w) : (rg 6 bd).wp Try.prog (Exit.then K (bodyPost Try.prog Try.f14 (fun e w' => e = .returned (.bool true) ∧ Below w00.heap.size w00 w'))) ⟨#[u0, u1, .pointer (some ⟨p, 0, none⟩), .pointer (some ⟨q, 0, none⟩), u4, .pointer (some ⟨g, 0, none⟩), .func (.func 51) #[] #[.pointer (some ⟨g, 0, none⟩)], .pointer (some ⟨k1, 0, none⟩), iv e1, u9, u10, u11, u12, u13, u14, u15, u16, u17, u18, u19, u20, u21, u22, u23, u24, u25, u26, u27, u28, u29, u30, u31, u32, u33, u34, u35, u36, u37, u38, u39, u40, u41, u42, u43, u44, u45, u46, u47, u48, u49, u50, u51, u52, u53, u54, u55, u56, u57, u58, u59, u60, u61, u62, u63, u64, u65, u66, u67, u68, u69, u70, u71, u72, u73, u74, u75, u76, u77, u78, u79, u80, u81, u82, u83, u84, u85, u86, u87, u88, u89, u90, u91, u92, u93, u94, u95, u96, u97, u98, u99, u100, u101, u102, u103, u104, u105, u106, u107, u108, u109, u110, u111, u112, u113, u114, u115, u116, u117, u118, u119, u120, u121, u122, u123, u124, u125, u126, u127, u128, u129, u130, u131, u132, u133], []⟩ w := by
  have RC := Lib.hid fun (W : World) (h : DataAt W A n b o xs) => good_c (good_fade s A n c b o xs x y z u n5 hc W h)
  have NN := Lib.hid (And.intro (And.intro n5 m5) (And.intro hc hd))
  clear n5 m5 hc hd
  have P0 := Lib.hid p_0
  have Q0 := Lib.hid q_0
  have S0 := Lib.hid s_0
  have D0 := Lib.hid hA
  have E0 := Lib.hid hD
  have N1_0 := Lib.hid n1_0
  clear p_0 q_0 s_0 hA hD n1_0
  have z13 := (bkCell P0.out 13).trans (show _ = some (iv x) from rfl)
  have z14 := (bkCell P0.out 14).trans (show _ = some (iv y) from rfl)
  have z15 := (bkCell P0.out 15).trans (show _ = some (iv z) from rfl)
  have z16 := (bkCell P0.out 16).trans (show _ = some (iv u) from rfl)
  conv at hK => enter [a, w, 1, 2]; whnf
  conv => arg 2; whnf
  go_upto_region 7 with (first
    | (refine wpList_load_row rfl 24 (.tmp 5) rfl g rfl 24 _ (0, 0) _ S0.out Try.underlying24 rfl (S.i24 _ _ _ _) ?_)
    | (go_at_call 52; (with_reducible refine (RC.out _ D0.out).mono ?_); rintro e w1 ⟨t, A1, m1, c1, b1_, o1_, y1, e2, rfl, X1, G1, M1, hb1⟩; have P1 := Lib.hid (bkBelow P0.out hb1); have Q1 := Lib.hid (bkBelow Q0.out hb1); have S1 := Lib.hid (bkBelow S0.out hb1); have D1 := Lib.hid (D0.out.later hb1); have E1 := Lib.hid (E0.out.later hb1); have N1_1 := Lib.hid (N1_0.out.later hb1); have B1 := bdT B0 B0.size hb1; have V1 := Lib.hid (X1); clear P0 Q0 S0 D0 E0 N1_0; have HG := Lib.hid (And.intro G1 M1); clear G1 M1)
    | (refine wpList_store_row rfl 24 (.tmp 9) (.tmp 54) rfl (w1.heap.size) (t.cs A1 m1 c1) rfl rfl 24 _ (heap_alloc_new w1 (Obj.cells #[Value.string ⟨#[]⟩, Value.slice none 0 0, iv 0, iv 0, iv 0, iv 0, iv 0, iv 0, iv 0, iv 0, iv 0, iv 0, iv 0] 24)) (S.i24 _ _ _ _) (S.sz S.zero _ none _ 0 0 _ _) (S.one _ _ _ _) ?_; have K2 := below_setRow ((Below.refl w1.heap.size w1).alloc (Nat.le_refl _) (Obj.cells #[Value.string ⟨#[]⟩, Value.slice none 0 0, iv 0, iv 0, iv 0, iv 0, iv 0, iv 0, iv 0, iv 0, iv 0, iv 0, iv 0] 24)) (g := w1.heap.size) (Nat.le_refl _) (t.cs A1 m1 c1); have P2 := Lib.hid (bkBelow P1.out K2); have Q2 := Lib.hid (bkBelow Q1.out K2); have S2 := Lib.hid (bkBelow S1.out K2); have D2 := Lib.hid (D1.out.later K2); have E2 := Lib.hid (E1.out.later K2); have N1_2 := Lib.hid (N1_1.out.later K2); have V2 := Lib.hid (V1.out.later K2); have B2 := bdT B1 B1.size K2; have K_2 := Lib.hid (setRow_heap _ _ _ (t.cs A1 m1 c1) _ _ (heap_alloc_new w1 (Obj.cells #[Value.string ⟨#[]⟩, Value.slice none 0 0, iv 0, iv 0, iv 0, iv 0, iv 0, iv 0, iv 0, iv 0, iv 0, iv 0, iv 0] 24))); clear P1 Q1 S1 D1 E1 N1_1 V1))
  have N2_2 := Lib.hid (Ans.mk_ t A1 m1 c1 b1_ o1_ y1 K_2.out V2.out HG.out.1 HG.out.2)
  rename_i K2 hK2
  exact val_p3 s s2 A D n c m d b o b2 o2 xs ys x y z u p q g k1 e1 _ _ _ _ _ _ _ _ _ _ _ _ _ _ _ _ _ _ _ _ _ _ _ _ _ _ _ _ _ _ _ _ _ _ _ _ _ _ _ _ _ _ _ _ _ _ _ _ _ _ _ _ _ _ _ _ _ _ _ _ _ _ _ _ _ _ _ _ _ _ _ _ _ _ _ _ _ _ _ _ _ _ _ _ _ _ _ _ _ _ _ _ _ _ _ _ _ _ _ _ _ _ _ _ _ _ _ _ _ _ _ _ _ _ _ _ _ _ _ _ _ _ _ _ _ _ _ _ NN.out.1.1 NN.out.1.2 NN.out.2.1 NN.out.2.2 w00 _ B2 P2.out Q2.out S2.out D2.out E2.out N1_2.out N2_2.out K2 hK2
set_option maxHeartbeats 32000000 in
set_option maxRecDepth 100000 in
theorem val_p1 (s s2 : S) (A D : Option Addr) (n c m d b o b2 o2 : Nat) (xs ys : Nat → Int) (x y z u : Int) (p q g : Nat) (u0 u1 u4 u7 u8 u9 u10 u11 u12 u13 u14 u15 u16 u17 u18 u19 u20 u21 u22 u23 u24 u25 u26 u27 u28 u29 u30 u31 u32 u33 u34 u35 u36 u37 u38 u39 u40 u41 u42 u43 u44 u45 u46 u47 u48 u49 u50 u51 u52 u53 u54 u55 u56 u57 u58 u59 u60 u61 u62 u63 u64 u65 u66 u67 u68 u69 u70 u71 u72 u73 u74 u75 u76 u77 u78 u79 u80 u81 u82 u83 u84 u85 u86 u87 u88 u89 u90 u91 u92 u93 u94 u95 u96 u97 u98 u99 u100 u101 u102 u103 u104 u105 u106 u107 u108 u109 u110 u111 u112 u113 u114 u115 u116 u117 u118 u119 u120 u121 u122 u123 u124 u125 u126 u127 u128 u129 u130 u131 u132 u133 : Value) (n5 : n ≤ 5000) (m5 : m ≤ 5000) (hc : n ≤ c) (hd : m ≤ d) (w00 w : World) (B0 : Below w00.heap.size w00 w) (p_0 : w.heap[p]? = some (.cells (twv s A n c x y z u) 58 (0, 0))) (q_0 : w.heap[q]? = some (.cells (s2.cs D m d) 24 (0, 0))) (s_0 : w.heap[g]? = some (.cells (s.cs A n c) 24 (0, 0))) (hA : DataAt w A n b o xs) (hD : DataAt w D m b2 o2 ys) (K : Act → World → Prop) (hK : ∀ a w, (tl 5 bd).wp Try.prog (bodyPost Try.prog Try.f14 (fun e w' => e = .returned (.bool true) ∧ Below w00.heap.size w00 w')) a w → K a w) : (rg 5 bd).wp Try.prog (Exit.then K (bodyPost Try.prog Try.f14 (fun e w' => e = .returned (.bool true) ∧ Below w00.heap.size w00 w'))) ⟨#[u0, u1, .pointer (some ⟨p, 0, none⟩), .pointer (some ⟨q, 0, none⟩), u4, .pointer (some ⟨g, 0, none⟩), .func (.func 51) #[] #[.pointer (some ⟨g, 0, none⟩)], u7, u8, u9, u10, u11, u12, u13, u14, u15, u16, u17, u18, u19, u20, u21, u22, u23, u24, u25, u26, u27, u28, u29, u30, u31, u32, u33, u34, u35, u36, u37, u38, u39, u40, u41, u42, u43, u44, u45, u46, u47, u48, u49, u50, u51, u52, u53, u54, u55, u56, u57, u58, u59, u60, u61, u62, u63, u64, u65, u66, u67, u68, u69, u70, u71, u72, u73, u74, u75, u76, u77, u78, u79, u80, u81, u82, u83, u84, u85, u86, u87, u88, u89, u90, u91, u92, u93, u94, u95, u96, u97, u98, u99, u100, u101, u102, u103, u104, u105, u106, u107, u108, u109, u110, u111, u112, u113, u114, u115, u116, u117, u118, u119, u120, u121, u122, u123, u124, u125, u126, u127, u128, u129, u130, u131, u132, u133], []⟩ w := by
  have RC := Lib.hid fun (W : World) (h : DataAt W A n b o xs) => good_c (good_res s A n c b o xs x y z (by omega) hc W h)
  have NN := Lib.hid (And.intro (And.intro n5 m5) (And.intro hc hd))
  clear n5 m5 hc hd
  have P0 := Lib.hid p_0
  have Q0 := Lib.hid q_0
  have S0 := Lib.hid s_0
  have D0 := Lib.hid hA
  have E0 := Lib.hid hD
  clear p_0 q_0 s_0 hA hD
  have z13 := (bkCell P0.out 13).trans (show _ = some (iv x) from rfl)
  have z14 := (bkCell P0.out 14).trans (show _ = some (iv y) from rfl)
  have z15 := (bkCell P0.out 15).trans (show _ = some (iv z) from rfl)
  conv at hK => enter [a, w, 1, 2]; whnf
  conv => arg 2; whnf
  go_upto_region 6 with (first
    | (refine wpList_load_row rfl 24 (.tmp 5) rfl g rfl 24 _ (0, 0) _ S0.out Try.underlying24 rfl (S.i24 _ _ _ _) ?_)
    | (go_at_call 47; (with_reducible refine (RC.out _ D0.out).mono ?_); rintro e w1 ⟨t, A1, m1, c1, b1_, o1_, y1, e1, rfl, X1, G1, M1, hb1⟩; have P1 := Lib.hid (bkBelow P0.out hb1); have Q1 := Lib.hid (bkBelow Q0.out hb1); have S1 := Lib.hid (bkBelow S0.out hb1); have D1 := Lib.hid (D0.out.later hb1); have E1 := Lib.hid (E0.out.later hb1); have B1 := bdT B0 B0.size hb1; have V1 := Lib.hid (X1); clear P0 Q0 S0 D0 E0; have HG := Lib.hid (And.intro G1 M1); clear G1 M1)
    | (refine wpList_store_row rfl 24 (.tmp 7) (.tmp 41) rfl (w1.heap.size) (t.cs A1 m1 c1) rfl rfl 24 _ (heap_alloc_new w1 (Obj.cells #[Value.string ⟨#[]⟩, Value.slice none 0 0, iv 0, iv 0, iv 0, iv 0, iv 0, iv 0, iv 0, iv 0, iv 0, iv 0, iv 0] 24)) (S.i24 _ _ _ _) (S.sz S.zero _ none _ 0 0 _ _) (S.one _ _ _ _) ?_; have K2 := below_setRow ((Below.refl w1.heap.size w1).alloc (Nat.le_refl _) (Obj.cells #[Value.string ⟨#[]⟩, Value.slice none 0 0, iv 0, iv 0, iv 0, iv 0, iv 0, iv 0, iv 0, iv 0, iv 0, iv 0, iv 0] 24)) (g := w1.heap.size) (Nat.le_refl _) (t.cs A1 m1 c1); have P2 := Lib.hid (bkBelow P1.out K2); have Q2 := Lib.hid (bkBelow Q1.out K2); have S2 := Lib.hid (bkBelow S1.out K2); have D2 := Lib.hid (D1.out.later K2); have E2 := Lib.hid (E1.out.later K2); have V2 := Lib.hid (V1.out.later K2); have B2 := bdT B1 B1.size K2; have K_2 := Lib.hid (setRow_heap _ _ _ (t.cs A1 m1 c1) _ _ (heap_alloc_new w1 (Obj.cells #[Value.string ⟨#[]⟩, Value.slice none 0 0, iv 0, iv 0, iv 0, iv 0, iv 0, iv 0, iv 0, iv 0, iv 0, iv 0, iv 0] 24))); clear P1 Q1 S1 D1 E1 V1))
  have N1_2 := Lib.hid (Ans.mk_ t A1 m1 c1 b1_ o1_ y1 K_2.out V2.out HG.out.1 HG.out.2)
  rename_i K2 hK2
  exact val_p2 s s2 A D n c m d b o b2 o2 xs ys x y z u p q g _ _ _ _ _ _ _ _ _ _ _ _ _ _ _ _ _ _ _ _ _ _ _ _ _ _ _ _ _ _ _ _ _ _ _ _ _ _ _ _ _ _ _ _ _ _ _ _ _ _ _ _ _ _ _ _ _ _ _ _ _ _ _ _ _ _ _ _ _ _ _ _ _ _ _ _ _ _ _ _ _ _ _ _ _ _ _ _ _ _ _ _ _ _ _ _ _ _ _ _ _ _ _ _ _ _ _ _ _ _ _ _ _ _ _ _ _ _ _ _ _ _ _ _ _ _ _ _ _ _ NN.out.1.1 NN.out.1.2 NN.out.2.1 NN.out.2.2 w00 _ B2 P2.out Q2.out S2.out D2.out E2.out N1_2.out K2 hK2
set_option maxHeartbeats 32000000 in
set_option maxRecDepth 100000 in
theorem val_ok (s s2 : S) (A D : Option Addr) (n c m d b o b2 o2 : Nat) (xs ys : Nat → Int) (x y z u : Int) (h1 : decide (n ≤ 5000 ∧ s.nm.size ≤ 100) = true) (h2 : decide (m ≤ 5000 ∧ s2.nm.size ≤ 100) = true) (hn : n ≤ 9223372036854775807) (hc : n ≤ c) (hm : m ≤ 9223372036854775807) (hd : m ≤ d) (w : World) (hA : DataAt w A n b o xs) (hD : DataAt w D m b2 o2 ys) : Calls Try.prog 14 #[.agg (twv s A n c x y z u), .agg (s2.cs D m d)] w fun e w' => e = .returned (.bool true) ∧ Below w.heap.size w w' := by
  have B0 : Below w.heap.size w ((w.alloc (Obj.cells (twv s A n c x y z u) 58)).alloc (Obj.cells (s2.cs D m d) 24)) := ((Below.refl _ _).alloc (Nat.le_refl _) _).alloc (by simp) _
  have P0 := Lib.hid (heap_alloc2_old w (Obj.cells (twv s A n c x y z u) 58) (Obj.cells (s2.cs D m d) 24))
  have Q0 := Lib.hid (heap_alloc2_new w (Obj.cells (twv s A n c x y z u) 58) (Obj.cells (s2.cs D m d) 24))
  have D0 := Lib.hid (hA.later B0)
  have E0 := Lib.hid (hD.later B0)
  have T1 := Lib.hid fun (W : World) => tame_any s A n c W
  have T2 := Lib.hid fun (W : World) => tame_any s2 D m d W
  have NN := Lib.hid (And.intro (And.intro (of_decide_eq_true h1).1 (of_decide_eq_true h2).1) (And.intro hc hd))
  rw [h1] at T1
  rw [h2] at T2
  clear h1 h2 hA hD hn hc hm hd
  go_enter Try.func14, Try.ntmps14
  go_upto_region 1 with (fail)
  generalize ((w.alloc (Obj.cells (twv s A n c x y z u) 58)).alloc (Obj.cells (s2.cs D m d) 24)) = w0 at *
  go_upto_region 2 with (first
    | (refine wpList_load_mid rfl 24 (.tmp 21) rfl (w.heap.size) 0 rfl (s.cs A n c).toList _ (tv_smp P0.out) Try.underlying24 rfl (by simpa using S.i24 s A n c) ?_)
    | (refine wpList_store_row rfl 24 (.tmp 5) (.tmp 22) rfl (w0.heap.size) (s.cs A n c) rfl rfl 24 _ (heap_alloc_new w0 (Obj.cells #[Value.string ⟨#[]⟩, Value.slice none 0 0, iv 0, iv 0, iv 0, iv 0, iv 0, iv 0, iv 0, iv 0, iv 0, iv 0, iv 0] 24)) (S.i24 _ _ _ _) (S.sz S.zero _ none _ 0 0 _ _) (S.one _ _ _ _) ?_; have K1 := below_setRow ((Below.refl w0.heap.size w0).alloc (Nat.le_refl _) (Obj.cells #[Value.string ⟨#[]⟩, Value.slice none 0 0, iv 0, iv 0, iv 0, iv 0, iv 0, iv 0, iv 0, iv 0, iv 0, iv 0, iv 0] 24)) (g := w0.heap.size) (Nat.le_refl _) (s.cs A n c); have P1 := Lib.hid (bkBelow P0.out K1); have Q1 := Lib.hid (bkBelow Q0.out K1); have D1 := Lib.hid (D0.out.later K1); have E1 := Lib.hid (E0.out.later K1); have B1 := bdT B0 B0.size K1; have S1 := Lib.hid (setRow_heap _ _ _ (s.cs A n c) _ _ (heap_alloc_new w0 (Obj.cells #[Value.string ⟨#[]⟩, Value.slice none 0 0, iv 0, iv 0, iv 0, iv 0, iv 0, iv 0, iv 0, iv 0, iv 0, iv 0, iv 0] 24))); clear P0 Q0 D0 E0))
  go_upto_region 4 with (first
    | (refine wpList_load_row rfl 24 (.tmp 5) rfl (w0.heap.size) rfl 24 _ (0, 0) _ S1.out Try.underlying24 rfl (S.i24 _ _ _ _) ?_)
    | (go_at_call 46; (with_reducible refine (T1.out _).mono ?_); rintro e w2 ⟨rfl, hb2⟩; have P2 := Lib.hid (bkBelow P1.out hb2); have Q2 := Lib.hid (bkBelow Q1.out hb2); have D2 := Lib.hid (D1.out.later hb2); have E2 := Lib.hid (E1.out.later hb2); have S2 := Lib.hid (bkBelow S1.out hb2); have B2 := bdT B1 B1.size hb2; clear P1 Q1 D1 E1 S1)
    | (refine gdOn (by rfl) ?_; refine wpList_load_row rfl 24 (.tmp 3) rfl (w.heap.size + 1) rfl 24 _ (0, 0) _ Q2.out Try.underlying24 rfl (S.i24 _ _ _ _) ?_)
    | (go_at_call 46; (with_reducible refine (T2.out _).mono ?_); rintro e w3 ⟨rfl, hb3⟩; have P3 := Lib.hid (bkBelow P2.out hb3); have Q3 := Lib.hid (bkBelow Q2.out hb3); have D3 := Lib.hid (D2.out.later hb3); have E3 := Lib.hid (E2.out.later hb3); have S3 := Lib.hid (bkBelow S2.out hb3); have B3 := bdT B2 B2.size hb3; clear P2 Q2 D2 E2 S2))
  go_upto_region 5 with (fail)
  rename_i K2 hK2
  exact val_p1 s s2 A D n c m d b o b2 o2 xs ys x y z u _ _ _ _ _ _ _ _ _ _ _ _ _ _ _ _ _ _ _ _ _ _ _ _ _ _ _ _ _ _ _ _ _ _ _ _ _ _ _ _ _ _ _ _ _ _ _ _ _ _ _ _ _ _ _ _ _ _ _ _ _ _ _ _ _ _ _ _ _ _ _ _ _ _ _ _ _ _ _ _ _ _ _ _ _ _ _ _ _ _ _ _ _ _ _ _ _ _ _ _ _ _ _ _ _ _ _ _ _ _ _ _ _ _ _ _ _ _ _ _ _ _ _ _ _ _ _ _ _ _ _ _ _ NN.out.1.1 NN.out.1.2 NN.out.2.1 NN.out.2.2 w _ B3 P3.out Q3.out S3.out D3.out E3.out K2 hK2
theorem val_law (s : S) (A : Option Addr) (n c : Nat) (zs : List Int) (x y z u : Int) (s2 : S) (D : Option Addr) (m d : Nat) (vs : List Int) (w : World) (h : RowOf w A n c zs) (k : RowOf w D m d vs) : Calls Try.prog 14 #[.agg (twv s A n c x y z u), .agg (s2.cs D m d)] w fun e w' => e = .returned (.bool true) ∧ Below w.heap.size w w' := by
  obtain ⟨k1, hn, b, o, d1⟩ := dataOf h
  obtain ⟨k2, hm, b2, o2, d2⟩ := dataOf k
  cases h1 : decide (n ≤ 5000 ∧ s.nm.size ≤ 100)
  · exact val_w1 s s2 A D n c m d b o b2 o2 _ _ x y z u h1 hn k1 hm k2 w d1 d2
  · cases h2 : decide (m ≤ 5000 ∧ s2.nm.size ≤ 100)
    · exact val_w2 s s2 A D n c m d b o b2 o2 _ _ x y z u h1 h2 hn k1 hm k2 w d1 d2
    · exact val_ok s s2 A D n c m d b o b2 o2 _ _ x y z u h1 h2 hn k1 hm k2 w d1 d2
end Go.Proofs.Ytnmoiolddfboiaa.SX

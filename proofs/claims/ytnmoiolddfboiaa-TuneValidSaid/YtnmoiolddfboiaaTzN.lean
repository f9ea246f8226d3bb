/- A sample that is faded: both functions. -/
import Derived.Test.YtnmoiolddfboiaaTzM
namespace Go.Proofs.Ytnmoiolddfboiaa.TZ
open Go.Proofs.Ytnmoiolddfboiaa.TX
open Go.RowKit Go.Proofs.YtnmoiolddfboiaaW.PrintLast
set_option linter.unusedVariables false
set_option linter.unusedSimpArgs false
theorem al6 (w : World) (A B C D E F : Obj) : (((((((w.alloc A).alloc B).alloc C).alloc D).alloc E).alloc F).heap[w.heap.size]? = some A ∧ ((((((w.alloc A).alloc B).alloc C).alloc D).alloc E).alloc F).heap[w.heap.size + 1]? = some B ∧ ((((((w.alloc A).alloc B).alloc C).alloc D).alloc E).alloc F).heap[w.heap.size + 1 + 1]? = some C ∧
    ((((((w.alloc A).alloc B).alloc C).alloc D).alloc E).alloc F).heap[w.heap.size + 1 + 1 + 1]? = some D ∧ ((((((w.alloc A).alloc B).alloc C).alloc D).alloc E).alloc F).heap[w.heap.size + 1 + 1 + 1 + 1]? = some E ∧ ((((((w.alloc A).alloc B).alloc C).alloc D).alloc E).alloc F).heap[w.heap.size + 1 + 1 + 1 + 1 + 1]? = some F) := by
  refine ⟨bkAlloc (bkAlloc (al4a w A B C D) E) F, bkAlloc (bkAlloc (al4b w A B C D) E) F, bkAlloc (bkAlloc (al4c w A B C D) E) F, bkAlloc (bkAlloc (al4d w A B C D) E) F, ?_, ?_⟩
  · have := heap_alloc2_old ((((w.alloc A).alloc B).alloc C).alloc D) E F
    simpa only [World.size_alloc] using this
  · have := heap_alloc2_new ((((w.alloc A).alloc B).alloc C).alloc D) E F
    simpa only [World.size_alloc] using this
set_option maxHeartbeats 16000000 in
set_option maxRecDepth 100000 in
theorem fade_bad (s : S) (A : Option Addr) (n c b o : Nat) (xs : Nat → Int) (w : World) (hA : DataAt w A n b o xs) (hn : (n : Int) ≤ 1000000) (hc : n ≤ c) (fr tz fi la : Int) (hva : vS s n xs = false) :
    Calls Try.prog 52 #[.agg (s.cs A n c), iv fr, iv tz, iv fi, iv la] w fun e w' => e = .returned (.tuple #[.agg (S.zero.cs none 0 0), iv 1]) ∧ Below w.heap.size w w' := by
  have hB0 : Below w.heap.size w ((((((w.alloc (Obj.cells (s.cs A n c) 24)).alloc (Obj.cells #[iv fr] 3)).alloc (Obj.cells #[iv tz] 3)).alloc (Obj.cells #[iv fi] 3)).alloc (Obj.cells #[iv la] 3)).alloc (Obj.cells #[Value.string ⟨#[]⟩, Value.slice none 0 0, iv 0, iv 0, iv 0, iv 0, iv 0, iv 0, iv 0, iv 0, iv 0, iv 0, iv 0] 24)) := ((((((Below.refl _ _).alloc (Nat.le_refl _) _).alloc (by simp) _).alloc (by simp; omega) _).alloc (by simp; omega) _).alloc (by simp; omega) _).alloc (by simp; omega) _
  obtain ⟨y0, y1, y2, y3, y4, y5⟩ := al6 w (Obj.cells (s.cs A n c) 24) (Obj.cells #[iv fr] 3) (Obj.cells #[iv tz] 3) (Obj.cells #[iv fi] 3) (Obj.cells #[iv la] 3) (Obj.cells #[Value.string ⟨#[]⟩, Value.slice none 0 0, iv 0, iv 0, iv 0, iv 0, iv 0, iv 0, iv 0, iv 0, iv 0, iv 0, iv 0] 24)
  have P0 := Lib.hid y0
  have J0 := Lib.hid y1
  have K0 := Lib.hid y2
  have L0 := Lib.hid y3
  have M0 := Lib.hid y4
  have R0 := Lib.hid y5
  clear y0 y1 y2 y3 y4 y5
  have HD := Lib.hid hA
  have TD := Lib.hid hA.top
  clear hA
  have l0 : (0 : Int) ≤ (n : Int) := by omega
  go_enter Try.func52, Try.ntmps52
  go_wp2_with (first
    | (refine wpList_load_row rfl 24 (.tmp 5) rfl (w.heap.size) rfl 24 _ (0, 0) _ P0.out Try.underlying24 rfl (S.i24 _ _ _ _) ?_)
    | (go_at_call 15; (with_reducible refine (valid_any s A n c b o xs (by omega) hc _ (HD.out.later hB0)).mono ?_); rintro e w1 ⟨rfl, hb1⟩; have P1 := Lib.hid (bkBelow P0.out hb1); have J1 := Lib.hid (bkBelow J0.out hb1); have K1 := Lib.hid (bkBelow K0.out hb1); have L1 := Lib.hid (bkBelow L0.out hb1); have M1 := Lib.hid (bkBelow M0.out hb1); have R1 := Lib.hid (bkBelow R0.out hb1); have B1 := bdT hB0 hB0.size hb1; have p1 := (bkCell P1.out 1).trans (show _ = some (Value.slice A n c) from rfl); have j1 := (bkCell J1.out 0).trans (show _ = some (iv fr) from rfl); have k1 := (bkCell K1.out 0).trans (show _ = some (iv tz) from rfl); have l1 := (bkCell L1.out 0).trans (show _ = some (iv fi) from rfl); have m1 := (bkCell M1.out 0).trans (show _ = some (iv la) from rfl);  simp only [hva])
    | (refine wpBuild0 rfl 24 rfl (S.zero.cs none 0 0) built24 ?_)
    | (refine wpList_store_row rfl 24 (.tmp 10) (.tmp 15) rfl (w.heap.size + 1 + 1 + 1 + 1 + 1) (S.zero.cs none 0 0) rfl rfl 24 _ R1.out (S.i24 _ _ _ _) (S.sz S.zero S.zero none none 0 0 0 0) (S.one _ _ _ _) ?_))
  refine bodyPost_ret (res_ct rfl _ _ (w.heap.size + 1 + 1 + 1 + 1 + 1) 24 _ (0, 0) _ rfl (setRow_heap _ _ _ _ _ _ R1.out) Try.underlying24 rfl (S.i24 _ _ _ _)) rfl ⟨rfl, below_setRow B1 (by omega) _⟩
set_option maxHeartbeats 16000000 in
set_option maxRecDepth 100000 in
theorem fade_e1 (s : S) (A : Option Addr) (n c b o : Nat) (xs : Nat → Int) (w : World) (hA : DataAt w A n b o xs) (hn : (n : Int) ≤ 1000000) (hc : n ≤ c) (fr tz fi la : Int) (hva : vS s n xs = true) (h1 : fr < 0) :
    Calls Try.prog 52 #[.agg (s.cs A n c), iv fr, iv tz, iv fi, iv la] w fun e w' => e = .returned (.tuple #[.agg (S.zero.cs none 0 0), iv 5]) ∧ Below w.heap.size w w' := by
  have hB0 : Below w.heap.size w ((((((w.alloc (Obj.cells (s.cs A n c) 24)).alloc (Obj.cells #[iv fr] 3)).alloc (Obj.cells #[iv tz] 3)).alloc (Obj.cells #[iv fi] 3)).alloc (Obj.cells #[iv la] 3)).alloc (Obj.cells #[Value.string ⟨#[]⟩, Value.slice none 0 0, iv 0, iv 0, iv 0, iv 0, iv 0, iv 0, iv 0, iv 0, iv 0, iv 0, iv 0] 24)) := ((((((Below.refl _ _).alloc (Nat.le_refl _) _).alloc (by simp) _).alloc (by simp; omega) _).alloc (by simp; omega) _).alloc (by simp; omega) _).alloc (by simp; omega) _
  obtain ⟨y0, y1, y2, y3, y4, y5⟩ := al6 w (Obj.cells (s.cs A n c) 24) (Obj.cells #[iv fr] 3) (Obj.cells #[iv tz] 3) (Obj.cells #[iv fi] 3) (Obj.cells #[iv la] 3) (Obj.cells #[Value.string ⟨#[]⟩, Value.slice none 0 0, iv 0, iv 0, iv 0, iv 0, iv 0, iv 0, iv 0, iv 0, iv 0, iv 0, iv 0] 24)
  have P0 := Lib.hid y0
  have J0 := Lib.hid y1
  have K0 := Lib.hid y2
  have L0 := Lib.hid y3
  have M0 := Lib.hid y4
  have R0 := Lib.hid y5
  clear y0 y1 y2 y3 y4 y5
  have HD := Lib.hid hA
  have TD := Lib.hid hA.top
  clear hA
  have l0 : (0 : Int) ≤ (n : Int) := by omega
  have d1 : decide (fr < 0) = true := decide_eq_true (by omega)
  go_enter Try.func52, Try.ntmps52
  go_wp2_with (first
    | (refine wpList_load_row rfl 24 (.tmp 5) rfl (w.heap.size) rfl 24 _ (0, 0) _ P0.out Try.underlying24 rfl (S.i24 _ _ _ _) ?_)
    | (go_at_call 15; (with_reducible refine (valid_any s A n c b o xs (by omega) hc _ (HD.out.later hB0)).mono ?_); rintro e w1 ⟨rfl, hb1⟩; have P1 := Lib.hid (bkBelow P0.out hb1); have J1 := Lib.hid (bkBelow J0.out hb1); have K1 := Lib.hid (bkBelow K0.out hb1); have L1 := Lib.hid (bkBelow L0.out hb1); have M1 := Lib.hid (bkBelow M0.out hb1); have R1 := Lib.hid (bkBelow R0.out hb1); have B1 := bdT hB0 hB0.size hb1; have p1 := (bkCell P1.out 1).trans (show _ = some (Value.slice A n c) from rfl); have j1 := (bkCell J1.out 0).trans (show _ = some (iv fr) from rfl); have k1 := (bkCell K1.out 0).trans (show _ = some (iv tz) from rfl); have l1 := (bkCell L1.out 0).trans (show _ = some (iv fi) from rfl); have m1 := (bkCell M1.out 0).trans (show _ = some (iv la) from rfl);  simp only [hva])
    | (refine wpBuild0 rfl 24 rfl (S.zero.cs none 0 0) built24 ?_)
    | (refine wpList_store_row rfl 24 (.tmp 10) (.tmp 40) rfl (w.heap.size + 1 + 1 + 1 + 1 + 1) (S.zero.cs none 0 0) rfl rfl 24 _ R1.out (S.i24 _ _ _ _) (S.sz S.zero S.zero none none 0 0 0 0) (S.one _ _ _ _) ?_))
  refine bodyPost_ret (res_ct rfl _ _ (w.heap.size + 1 + 1 + 1 + 1 + 1) 24 _ (0, 0) _ rfl (setRow_heap _ _ _ _ _ _ R1.out) Try.underlying24 rfl (S.i24 _ _ _ _)) rfl ⟨rfl, below_setRow B1 (by omega) _⟩
set_option maxHeartbeats 16000000 in
set_option maxRecDepth 100000 in
theorem fade_e2 (s : S) (A : Option Addr) (n c b o : Nat) (xs : Nat → Int) (w : World) (hA : DataAt w A n b o xs) (hn : (n : Int) ≤ 1000000) (hc : n ≤ c) (fr tz fi la : Int) (hva : vS s n xs = true) (h1 : 0 ≤ fr) (h2 : tz < fr) :
    Calls Try.prog 52 #[.agg (s.cs A n c), iv fr, iv tz, iv fi, iv la] w fun e w' => e = .returned (.tuple #[.agg (S.zero.cs none 0 0), iv 5]) ∧ Below w.heap.size w w' := by
  have hB0 : Below w.heap.size w ((((((w.alloc (Obj.cells (s.cs A n c) 24)).alloc (Obj.cells #[iv fr] 3)).alloc (Obj.cells #[iv tz] 3)).alloc (Obj.cells #[iv fi] 3)).alloc (Obj.cells #[iv la] 3)).alloc (Obj.cells #[Value.string ⟨#[]⟩, Value.slice none 0 0, iv 0, iv 0, iv 0, iv 0, iv 0, iv 0, iv 0, iv 0, iv 0, iv 0, iv 0] 24)) := ((((((Below.refl _ _).alloc (Nat.le_refl _) _).alloc (by simp) _).alloc (by simp; omega) _).alloc (by simp; omega) _).alloc (by simp; omega) _).alloc (by simp; omega) _
  obtain ⟨y0, y1, y2, y3, y4, y5⟩ := al6 w (Obj.cells (s.cs A n c) 24) (Obj.cells #[iv fr] 3) (Obj.cells #[iv tz] 3) (Obj.cells #[iv fi] 3) (Obj.cells #[iv la] 3) (Obj.cells #[Value.string ⟨#[]⟩, Value.slice none 0 0, iv 0, iv 0, iv 0, iv 0, iv 0, iv 0, iv 0, iv 0, iv 0, iv 0, iv 0] 24)
  have P0 := Lib.hid y0
  have J0 := Lib.hid y1
  have K0 := Lib.hid y2
  have L0 := Lib.hid y3
  have M0 := Lib.hid y4
  have R0 := Lib.hid y5
  clear y0 y1 y2 y3 y4 y5
  have HD := Lib.hid hA
  have TD := Lib.hid hA.top
  clear hA
  have l0 : (0 : Int) ≤ (n : Int) := by omega
  have d1 : decide (fr < 0) = false := decide_eq_false (by omega)
  have d2 : decide (tz < fr) = true := decide_eq_true (by omega)
  go_enter Try.func52, Try.ntmps52
  go_wp2_with (first
    | (refine wpList_load_row rfl 24 (.tmp 5) rfl (w.heap.size) rfl 24 _ (0, 0) _ P0.out Try.underlying24 rfl (S.i24 _ _ _ _) ?_)
    | (go_at_call 15; (with_reducible refine (valid_any s A n c b o xs (by omega) hc _ (HD.out.later hB0)).mono ?_); rintro e w1 ⟨rfl, hb1⟩; have P1 := Lib.hid (bkBelow P0.out hb1); have J1 := Lib.hid (bkBelow J0.out hb1); have K1 := Lib.hid (bkBelow K0.out hb1); have L1 := Lib.hid (bkBelow L0.out hb1); have M1 := Lib.hid (bkBelow M0.out hb1); have R1 := Lib.hid (bkBelow R0.out hb1); have B1 := bdT hB0 hB0.size hb1; have p1 := (bkCell P1.out 1).trans (show _ = some (Value.slice A n c) from rfl); have j1 := (bkCell J1.out 0).trans (show _ = some (iv fr) from rfl); have k1 := (bkCell K1.out 0).trans (show _ = some (iv tz) from rfl); have l1 := (bkCell L1.out 0).trans (show _ = some (iv fi) from rfl); have m1 := (bkCell M1.out 0).trans (show _ = some (iv la) from rfl);  simp only [hva])
    | (refine wpBuild0 rfl 24 rfl (S.zero.cs none 0 0) built24 ?_)
    | (refine wpList_store_row rfl 24 (.tmp 10) (.tmp 40) rfl (w.heap.size + 1 + 1 + 1 + 1 + 1) (S.zero.cs none 0 0) rfl rfl 24 _ R1.out (S.i24 _ _ _ _) (S.sz S.zero S.zero none none 0 0 0 0) (S.one _ _ _ _) ?_))
  refine bodyPost_ret (res_ct rfl _ _ (w.heap.size + 1 + 1 + 1 + 1 + 1) 24 _ (0, 0) _ rfl (setRow_heap _ _ _ _ _ _ R1.out) Try.underlying24 rfl (S.i24 _ _ _ _)) rfl ⟨rfl, below_setRow B1 (by omega) _⟩
set_option maxHeartbeats 16000000 in
set_option maxRecDepth 100000 in
theorem fade_e3 (s : S) (A : Option Addr) (n c b o : Nat) (xs : Nat → Int) (w : World) (hA : DataAt w A n b o xs) (hn : (n : Int) ≤ 1000000) (hc : n ≤ c) (fr tz fi la : Int) (hva : vS s n xs = true) (h1 : 0 ≤ fr) (h2 : fr ≤ tz) (h3 : (n : Int) < tz) :
    Calls Try.prog 52 #[.agg (s.cs A n c), iv fr, iv tz, iv fi, iv la] w fun e w' => e = .returned (.tuple #[.agg (S.zero.cs none 0 0), iv 5]) ∧ Below w.heap.size w w' := by
  have hB0 : Below w.heap.size w ((((((w.alloc (Obj.cells (s.cs A n c) 24)).alloc (Obj.cells #[iv fr] 3)).alloc (Obj.cells #[iv tz] 3)).alloc (Obj.cells #[iv fi] 3)).alloc (Obj.cells #[iv la] 3)).alloc (Obj.cells #[Value.string ⟨#[]⟩, Value.slice none 0 0, iv 0, iv 0, iv 0, iv 0, iv 0, iv 0, iv 0, iv 0, iv 0, iv 0, iv 0] 24)) := ((((((Below.refl _ _).alloc (Nat.le_refl _) _).alloc (by simp) _).alloc (by simp; omega) _).alloc (by simp; omega) _).alloc (by simp; omega) _).alloc (by simp; omega) _
  obtain ⟨y0, y1, y2, y3, y4, y5⟩ := al6 w (Obj.cells (s.cs A n c) 24) (Obj.cells #[iv fr] 3) (Obj.cells #[iv tz] 3) (Obj.cells #[iv fi] 3) (Obj.cells #[iv la] 3) (Obj.cells #[Value.string ⟨#[]⟩, Value.slice none 0 0, iv 0, iv 0, iv 0, iv 0, iv 0, iv 0, iv 0, iv 0, iv 0, iv 0, iv 0] 24)
  have P0 := Lib.hid y0
  have J0 := Lib.hid y1
  have K0 := Lib.hid y2
  have L0 := Lib.hid y3
  have M0 := Lib.hid y4
  have R0 := Lib.hid y5
  clear y0 y1 y2 y3 y4 y5
  have HD := Lib.hid hA
  have TD := Lib.hid hA.top
  clear hA
  have l0 : (0 : Int) ≤ (n : Int) := by omega
  have d1 : decide (fr < 0) = false := decide_eq_false (by omega)
  have d2 : decide (tz < fr) = false := decide_eq_false (by omega)
  have d3 : decide ((n : Int) < tz) = true := decide_eq_true (by omega)
  go_enter Try.func52, Try.ntmps52
  go_wp2_with (first
    | (refine wpList_load_row rfl 24 (.tmp 5) rfl (w.heap.size) rfl 24 _ (0, 0) _ P0.out Try.underlying24 rfl (S.i24 _ _ _ _) ?_)
    | (go_at_call 15; (with_reducible refine (valid_any s A n c b o xs (by omega) hc _ (HD.out.later hB0)).mono ?_); rintro e w1 ⟨rfl, hb1⟩; have P1 := Lib.hid (bkBelow P0.out hb1); have J1 := Lib.hid (bkBelow J0.out hb1); have K1 := Lib.hid (bkBelow K0.out hb1); have L1 := Lib.hid (bkBelow L0.out hb1); have M1 := Lib.hid (bkBelow M0.out hb1); have R1 := Lib.hid (bkBelow R0.out hb1); have B1 := bdT hB0 hB0.size hb1; have p1 := (bkCell P1.out 1).trans (show _ = some (Value.slice A n c) from rfl); have j1 := (bkCell J1.out 0).trans (show _ = some (iv fr) from rfl); have k1 := (bkCell K1.out 0).trans (show _ = some (iv tz) from rfl); have l1 := (bkCell L1.out 0).trans (show _ = some (iv fi) from rfl); have m1 := (bkCell M1.out 0).trans (show _ = some (iv la) from rfl);  simp only [hva])
    | (refine wpBuild0 rfl 24 rfl (S.zero.cs none 0 0) built24 ?_)
    | (refine wpList_store_row rfl 24 (.tmp 10) (.tmp 40) rfl (w.heap.size + 1 + 1 + 1 + 1 + 1) (S.zero.cs none 0 0) rfl rfl 24 _ R1.out (S.i24 _ _ _ _) (S.sz S.zero S.zero none none 0 0 0 0) (S.one _ _ _ _) ?_))
  refine bodyPost_ret (res_ct rfl _ _ (w.heap.size + 1 + 1 + 1 + 1 + 1) 24 _ (0, 0) _ rfl (setRow_heap _ _ _ _ _ _ R1.out) Try.underlying24 rfl (S.i24 _ _ _ _)) rfl ⟨rfl, below_setRow B1 (by omega) _⟩
set_option maxHeartbeats 16000000 in
set_option maxRecDepth 100000 in
theorem fade_e4 (s : S) (A : Option Addr) (n c b o : Nat) (xs : Nat → Int) (w : World) (hA : DataAt w A n b o xs) (hn : (n : Int) ≤ 1000000) (hc : n ≤ c) (fr tz fi la : Int) (hva : vS s n xs = true) (h1 : 0 ≤ fr) (h2 : fr ≤ tz) (h3 : tz ≤ (n : Int)) (h4 : (fi < 0 ∨ 10000 < fi)) :
    Calls Try.prog 52 #[.agg (s.cs A n c), iv fr, iv tz, iv fi, iv la] w fun e w' => e = .returned (.tuple #[.agg (S.zero.cs none 0 0), iv 5]) ∧ Below w.heap.size w w' := by
  have hB0 : Below w.heap.size w ((((((w.alloc (Obj.cells (s.cs A n c) 24)).alloc (Obj.cells #[iv fr] 3)).alloc (Obj.cells #[iv tz] 3)).alloc (Obj.cells #[iv fi] 3)).alloc (Obj.cells #[iv la] 3)).alloc (Obj.cells #[Value.string ⟨#[]⟩, Value.slice none 0 0, iv 0, iv 0, iv 0, iv 0, iv 0, iv 0, iv 0, iv 0, iv 0, iv 0, iv 0] 24)) := ((((((Below.refl _ _).alloc (Nat.le_refl _) _).alloc (by simp) _).alloc (by simp; omega) _).alloc (by simp; omega) _).alloc (by simp; omega) _).alloc (by simp; omega) _
  obtain ⟨y0, y1, y2, y3, y4, y5⟩ := al6 w (Obj.cells (s.cs A n c) 24) (Obj.cells #[iv fr] 3) (Obj.cells #[iv tz] 3) (Obj.cells #[iv fi] 3) (Obj.cells #[iv la] 3) (Obj.cells #[Value.string ⟨#[]⟩, Value.slice none 0 0, iv 0, iv 0, iv 0, iv 0, iv 0, iv 0, iv 0, iv 0, iv 0, iv 0, iv 0] 24)
  have P0 := Lib.hid y0
  have J0 := Lib.hid y1
  have K0 := Lib.hid y2
  have L0 := Lib.hid y3
  have M0 := Lib.hid y4
  have R0 := Lib.hid y5
  clear y0 y1 y2 y3 y4 y5
  have HD := Lib.hid hA
  have TD := Lib.hid hA.top
  clear hA
  have l0 : (0 : Int) ≤ (n : Int) := by omega
  have d1 : decide (fr < 0) = false := decide_eq_false (by omega)
  have d2 : decide (tz < fr) = false := decide_eq_false (by omega)
  have d3 : decide ((n : Int) < tz) = false := decide_eq_false (by omega)
  have H4 := Lib.hid h4
  clear h4
  go_enter Try.func52, Try.ntmps52
  go_wp2_with (first
    | (refine wpList_load_row rfl 24 (.tmp 5) rfl (w.heap.size) rfl 24 _ (0, 0) _ P0.out Try.underlying24 rfl (S.i24 _ _ _ _) ?_)
    | (go_at_call 15; (with_reducible refine (valid_any s A n c b o xs (by omega) hc _ (HD.out.later hB0)).mono ?_); rintro e w1 ⟨rfl, hb1⟩; have P1 := Lib.hid (bkBelow P0.out hb1); have J1 := Lib.hid (bkBelow J0.out hb1); have K1 := Lib.hid (bkBelow K0.out hb1); have L1 := Lib.hid (bkBelow L0.out hb1); have M1 := Lib.hid (bkBelow M0.out hb1); have R1 := Lib.hid (bkBelow R0.out hb1); have B1 := bdT hB0 hB0.size hb1; have p1 := (bkCell P1.out 1).trans (show _ = some (Value.slice A n c) from rfl); have j1 := (bkCell J1.out 0).trans (show _ = some (iv fr) from rfl); have k1 := (bkCell K1.out 0).trans (show _ = some (iv tz) from rfl); have l1 := (bkCell L1.out 0).trans (show _ = some (iv fi) from rfl); have m1 := (bkCell M1.out 0).trans (show _ = some (iv la) from rfl);  simp only [hva])
    | (go_at_call 87; (with_reducible refine (in_no fi 0 10000 _ H4.out).mono ?_); rintro e w5 ⟨rfl, rfl⟩)
    | (refine wpBuild0 rfl 24 rfl (S.zero.cs none 0 0) built24 ?_)
    | (refine wpList_store_row rfl 24 (.tmp 10) (.tmp 40) rfl (w.heap.size + 1 + 1 + 1 + 1 + 1) (S.zero.cs none 0 0) rfl rfl 24 _ R1.out (S.i24 _ _ _ _) (S.sz S.zero S.zero none none 0 0 0 0) (S.one _ _ _ _) ?_))
  refine bodyPost_ret (res_ct rfl _ _ (w.heap.size + 1 + 1 + 1 + 1 + 1) 24 _ (0, 0) _ rfl (setRow_heap _ _ _ _ _ _ R1.out) Try.underlying24 rfl (S.i24 _ _ _ _)) rfl ⟨rfl, below_setRow B1 (by omega) _⟩
set_option maxHeartbeats 16000000 in
set_option maxRecDepth 100000 in
theorem fade_e5 (s : S) (A : Option Addr) (n c b o : Nat) (xs : Nat → Int) (w : World) (hA : DataAt w A n b o xs) (hn : (n : Int) ≤ 1000000) (hc : n ≤ c) (fr tz fi la : Int) (hva : vS s n xs = true) (h1 : 0 ≤ fr) (h2 : fr ≤ tz) (h3 : tz ≤ (n : Int)) (h5 : 0 ≤ fi ∧ fi ≤ 10000) (h4 : (la < 0 ∨ 10000 < la)) :
    Calls Try.prog 52 #[.agg (s.cs A n c), iv fr, iv tz, iv fi, iv la] w fun e w' => e = .returned (.tuple #[.agg (S.zero.cs none 0 0), iv 5]) ∧ Below w.heap.size w w' := by
  have hB0 : Below w.heap.size w ((((((w.alloc (Obj.cells (s.cs A n c) 24)).alloc (Obj.cells #[iv fr] 3)).alloc (Obj.cells #[iv tz] 3)).alloc (Obj.cells #[iv fi] 3)).alloc (Obj.cells #[iv la] 3)).alloc (Obj.cells #[Value.string ⟨#[]⟩, Value.slice none 0 0, iv 0, iv 0, iv 0, iv 0, iv 0, iv 0, iv 0, iv 0, iv 0, iv 0, iv 0] 24)) := ((((((Below.refl _ _).alloc (Nat.le_refl _) _).alloc (by simp) _).alloc (by simp; omega) _).alloc (by simp; omega) _).alloc (by simp; omega) _).alloc (by simp; omega) _
  obtain ⟨y0, y1, y2, y3, y4, y5⟩ := al6 w (Obj.cells (s.cs A n c) 24) (Obj.cells #[iv fr] 3) (Obj.cells #[iv tz] 3) (Obj.cells #[iv fi] 3) (Obj.cells #[iv la] 3) (Obj.cells #[Value.string ⟨#[]⟩, Value.slice none 0 0, iv 0, iv 0, iv 0, iv 0, iv 0, iv 0, iv 0, iv 0, iv 0, iv 0, iv 0] 24)
  have P0 := Lib.hid y0
  have J0 := Lib.hid y1
  have K0 := Lib.hid y2
  have L0 := Lib.hid y3
  have M0 := Lib.hid y4
  have R0 := Lib.hid y5
  clear y0 y1 y2 y3 y4 y5
  have HD := Lib.hid hA
  have TD := Lib.hid hA.top
  clear hA
  have l0 : (0 : Int) ≤ (n : Int) := by omega
  have d1 : decide (fr < 0) = false := decide_eq_false (by omega)
  have d2 : decide (tz < fr) = false := decide_eq_false (by omega)
  have d3 : decide ((n : Int) < tz) = false := decide_eq_false (by omega)
  have H4 := Lib.hid h4
  clear h4
  go_enter Try.func52, Try.ntmps52
  go_wp2_with (first
    | (refine wpList_load_row rfl 24 (.tmp 5) rfl (w.heap.size) rfl 24 _ (0, 0) _ P0.out Try.underlying24 rfl (S.i24 _ _ _ _) ?_)
    | (go_at_call 15; (with_reducible refine (valid_any s A n c b o xs (by omega) hc _ (HD.out.later hB0)).mono ?_); rintro e w1 ⟨rfl, hb1⟩; have P1 := Lib.hid (bkBelow P0.out hb1); have J1 := Lib.hid (bkBelow J0.out hb1); have K1 := Lib.hid (bkBelow K0.out hb1); have L1 := Lib.hid (bkBelow L0.out hb1); have M1 := Lib.hid (bkBelow M0.out hb1); have R1 := Lib.hid (bkBelow R0.out hb1); have B1 := bdT hB0 hB0.size hb1; have p1 := (bkCell P1.out 1).trans (show _ = some (Value.slice A n c) from rfl); have j1 := (bkCell J1.out 0).trans (show _ = some (iv fr) from rfl); have k1 := (bkCell K1.out 0).trans (show _ = some (iv tz) from rfl); have l1 := (bkCell L1.out 0).trans (show _ = some (iv fi) from rfl); have m1 := (bkCell M1.out 0).trans (show _ = some (iv la) from rfl);  simp only [hva])
    | (go_at_call 87; (with_reducible refine (in_yes fi 0 10000 _ h5.1 h5.2).mono ?_); rintro e w5 ⟨rfl, rfl⟩)
    | (go_at_call 87; (with_reducible refine (in_no la 0 10000 _ H4.out).mono ?_); rintro e w5 ⟨rfl, rfl⟩)
    | (refine wpBuild0 rfl 24 rfl (S.zero.cs none 0 0) built24 ?_)
    | (refine wpList_store_row rfl 24 (.tmp 10) (.tmp 40) rfl (w.heap.size + 1 + 1 + 1 + 1 + 1) (S.zero.cs none 0 0) rfl rfl 24 _ R1.out (S.i24 _ _ _ _) (S.sz S.zero S.zero none none 0 0 0 0) (S.one _ _ _ _) ?_))
  refine bodyPost_ret (res_ct rfl _ _ (w.heap.size + 1 + 1 + 1 + 1 + 1) 24 _ (0, 0) _ rfl (setRow_heap _ _ _ _ _ _ R1.out) Try.underlying24 rfl (S.i24 _ _ _ _)) rfl ⟨rfl, below_setRow B1 (by omega) _⟩
/-- a frame of the faded sample -/
def fG (xs : Nat → Int) (fi la : Int) (f z i : Nat) : Int := if f ≤ i ∧ i < z then fv (xs i) fi la f z i else xs i
set_option maxHeartbeats 16000000 in
set_option maxRecDepth 100000 in
theorem fade_ok (s : S) (A : Option Addr) (n c b o : Nat) (xs : Nat → Int) (w : World) (hA : DataAt w A n b o xs) (hn : (n : Int) ≤ 1000000) (hc : n ≤ c) (fr tz fi la : Int) (h : Int) (hb : Bits s.a2 h) (hx : ∀ i, i < n → -h ≤ xs i ∧ xs i ≤ h - 1) (hva : vS s n xs = true) (f z : Nat) (h2 : f ≤ z) (h3 : z ≤ n) (h5 : 0 ≤ fi ∧ fi ≤ 10000) (h6 : 0 ≤ la ∧ la ≤ 10000) (hn4 : (n : Int) ≤ 4096) (hfr : fr = f) (htz : tz = z) :
    Calls Try.prog 52 #[.agg (s.cs A n c), iv fr, iv tz, iv fi, iv la] w fun e w' => ∃ A' c' b o, e = .returned (.tuple #[.agg (s.cs A' n c'), iv 0]) ∧ DataAt w' A' n b o (fun i => clp h (fG xs fi la f z i)) ∧ Below w.heap.size w w' := by
  have hB0 : Below w.heap.size w ((((((w.alloc (Obj.cells (s.cs A n c) 24)).alloc (Obj.cells #[iv fr] 3)).alloc (Obj.cells #[iv tz] 3)).alloc (Obj.cells #[iv fi] 3)).alloc (Obj.cells #[iv la] 3)).alloc (Obj.cells #[Value.string ⟨#[]⟩, Value.slice none 0 0, iv 0, iv 0, iv 0, iv 0, iv 0, iv 0, iv 0, iv 0, iv 0, iv 0, iv 0] 24)) := ((((((Below.refl _ _).alloc (Nat.le_refl _) _).alloc (by simp) _).alloc (by simp; omega) _).alloc (by simp; omega) _).alloc (by simp; omega) _).alloc (by simp; omega) _
  obtain ⟨y0, y1, y2, y3, y4, y5⟩ := al6 w (Obj.cells (s.cs A n c) 24) (Obj.cells #[iv fr] 3) (Obj.cells #[iv tz] 3) (Obj.cells #[iv fi] 3) (Obj.cells #[iv la] 3) (Obj.cells #[Value.string ⟨#[]⟩, Value.slice none 0 0, iv 0, iv 0, iv 0, iv 0, iv 0, iv 0, iv 0, iv 0, iv 0, iv 0, iv 0] 24)
  have P0 := Lib.hid y0
  have J0 := Lib.hid y1
  have K0 := Lib.hid y2
  have L0 := Lib.hid y3
  have M0 := Lib.hid y4
  have R0 := Lib.hid y5
  clear y0 y1 y2 y3 y4 y5
  have HD := Lib.hid hA
  have TD := Lib.hid hA.top
  clear hA
  have l0 : (0 : Int) ≤ (n : Int) := by omega
  have HBD := bits_bd hb
  have HX := Lib.hid (show ∀ j, j < n → -32768 ≤ xs j ∧ xs j ≤ 32768 from fun j hj => by have := hx j hj; omega)
  have HBT := Lib.hid hb
  have HU := Lib.hid (show f ≤ z ∧ z ≤ n ∧ (n : Int) ≤ 4096 ∧ n ≤ 1000000 from ⟨h2, h3, hn4, by omega⟩)
  have d1 : decide (fr < 0) = false := decide_eq_false (by omega)
  have d2 : decide (tz < fr) = false := decide_eq_false (by omega)
  have d3 : decide ((n : Int) < tz) = false := decide_eq_false (by omega)
  have HF := Lib.hid (And.intro hfr htz)
  clear hb hx h2 h3 hn4 hfr htz
  go_enter Try.func52, Try.ntmps52
  go_upto_region 5 with (first
    | (refine wpList_load_row rfl 24 (.tmp 5) rfl (w.heap.size) rfl 24 _ (0, 0) _ P0.out Try.underlying24 rfl (S.i24 _ _ _ _) ?_)
    | (go_at_call 15; (with_reducible refine (valid_any s A n c b o xs (by omega) hc _ (HD.out.later hB0)).mono ?_); rintro e w1 ⟨rfl, hb1⟩; have P1 := Lib.hid (bkBelow P0.out hb1); have J1 := Lib.hid (bkBelow J0.out hb1); have K1 := Lib.hid (bkBelow K0.out hb1); have L1 := Lib.hid (bkBelow L0.out hb1); have M1 := Lib.hid (bkBelow M0.out hb1); have R1 := Lib.hid (bkBelow R0.out hb1); have B1 := bdT hB0 hB0.size hb1; have p1 := (bkCell P1.out 1).trans (show _ = some (Value.slice A n c) from rfl); have j1 := (bkCell J1.out 0).trans (show _ = some (iv fr) from rfl); have k1 := (bkCell K1.out 0).trans (show _ = some (iv tz) from rfl); have l1 := (bkCell L1.out 0).trans (show _ = some (iv fi) from rfl); have m1 := (bkCell M1.out 0).trans (show _ = some (iv la) from rfl);  simp only [hva])
    | (go_at_call 87; (with_reducible refine (in_yes fi 0 10000 _ h5.1 h5.2).mono ?_); rintro e w5 ⟨rfl, rfl⟩)
    | (go_at_call 87; (with_reducible refine (in_yes la 0 10000 _ h6.1 h6.2).mono ?_); rintro e w5 ⟨rfl, rfl⟩))
  have D5 := HD.out.later B1
  have M5 := Lib.hid (mapped_any s A n c b o xs h HBT.out HU.out.2.2.2 97 #[.pointer (some ⟨w.heap.size + 1, 0, none⟩), .pointer (some ⟨w.heap.size + 1 + 1, 0, none⟩), .pointer (some ⟨w.heap.size + 1 + 1 + 1, 0, none⟩), .pointer (some ⟨w.heap.size + 1 + 1 + 1 + 1, 0, none⟩)] (enters_of Try.func97 (by kernel_rfl) rfl) (fG xs fi la f z) w1 D5 (fun W i hW hi => by
    obtain ⟨q1, q2, q3, q4⟩ := HU.out
    have c2 := (bkCell (bkBelow J1.out hW) 0).trans (show _ = some (iv fr) from rfl)
    have c3 := (bkCell (bkBelow K1.out hW) 0).trans (show _ = some (iv tz) from rfl)
    have c4 := (bkCell (bkBelow L1.out hW) 0).trans (show _ = some (iv fi) from rfl)
    have c5 := (bkCell (bkBelow M1.out hW) 0).trans (show _ = some (iv la) from rfl)
    rw [HF.out.1] at c2
    rw [HF.out.2] at c3
    by_cases hin : f ≤ i ∧ i < z
    · rw [show fG xs fi la f z i = fv (xs i) fi la f z i from if_pos hin]
      exact fadefn_in i n f z _ _ _ _ (xs i) fi la W (HX.out i hi) h5 h6 hin.1 hin.2 q2 q3 c2 c3 c4 c5
    · rw [show fG xs fi la f z i = xs i from if_neg hin]
      exact fadefn_out i f z _ _ _ _ (xs i) fi la W (by omega) c2 c3 c4 c5))
  have HR4 := Lib.hid (bkLt R1.out)
  clear D5 p1 j1 k1 l1 m1 d1 d2 d3 h5 h6
  go_wp2_with (first
    | (refine wpList_load_row rfl 24 (.tmp 5) rfl (w.heap.size) rfl 24 _ (0, 0) _ P1.out Try.underlying24 rfl (S.i24 _ _ _ _) ?_)
    | (go_at_call 96; (with_reducible refine M5.out.mono ?_); rintro e w6 ⟨g, rfl, D6, hg6, hb6⟩; have R6 := Lib.hid (bkBelow R1.out hb6); have B6 := bdT B1 B1.size hb6; have ND6 := Lib.hid D6)
    | (refine wpList_store_row rfl 24 (.tmp 10) (.tmp 43) rfl (w.heap.size + 1 + 1 + 1 + 1 + 1) (s.cs (some ⟨g, 0, none⟩) n n) rfl rfl 24 _ R6.out (S.i24 _ _ _ _) (S.sz S.zero s none _ 0 0 _ _) (S.one _ _ _ _) ?_))
  have hR4 := HR4.out
  refine bodyPost_ret (res_ct rfl _ _ (w.heap.size + 1 + 1 + 1 + 1 + 1) 24 _ (0, 0) _ rfl (setRow_heap _ _ _ _ _ _ R6.out) Try.underlying24 rfl (S.i24 _ _ _ _)) rfl ⟨_, _, g, 0, rfl, ND6.out.setRow (fun _ => by omega) _, below_setRow B6 (by omega) _⟩
end Go.Proofs.Ytnmoiolddfboiaa.TZ

/- A sample that is faded: both functions. -/
import Derived.Test.YtejnhhjldddbdaaTxM
namespace Go.Proofs.Ytejnhhjldddbdaa.TX
open Go.RowKit Go.Proofs.YtejnhhjldddbdaaW.PrintLast
set_option linter.unusedVariables false
set_option linter.unusedSimpArgs false
theorem al6 (w : World) (A B C D E F : Obj) : (((((((w.alloc A).alloc B).alloc C).alloc D).alloc E).alloc F).heap[w.heap.size]? = some A ∧ ((((((w.alloc A).alloc B).alloc C).alloc D).alloc E).alloc F).heap[w.heap.size + 1]? = some B ∧ ((((((w.alloc A).alloc B).alloc C).alloc D).alloc E).alloc F).heap[w.heap.size + 1 + 1]? = some C ∧
    ((((((w.alloc A).alloc B).alloc C).alloc D).alloc E).alloc F).heap[w.heap.size + 1 + 1 + 1]? = some D ∧ ((((((w.alloc A).alloc B).alloc C).alloc D).alloc E).alloc F).heap[w.heap.size + 1 + 1 + 1 + 1]? = some E ∧ ((((((w.alloc A).alloc B).alloc C).alloc D).alloc E).alloc F).heap[w.heap.size + 1 + 1 + 1 + 1 + 1]? = some F) := by
  refine ⟨bkAlloc (bkAlloc (al4a w A B C D) E) F, bkAlloc (bkAlloc (al4b w A B C D) E) F, bkAlloc (bkAlloc (al4c w A B C D) E) F, bkAlloc (bkAlloc (al4d w A B C D) E) F, ?_, ?_⟩
  · have := heap_alloc2_old ((((w.alloc A).alloc B).alloc C).alloc D) E F
    simpa only [World.size_alloc] using this
  · have := heap_alloc2_new ((((w.alloc A).alloc B).alloc C).alloc D) E F
    simpa only [World.size_alloc] using this
set_option maxHeartbeats 16000000 in
set_option maxRecDepth 100000 in
theorem fade_bad (s : S) (A : Option Addr) (n c b o : Nat) (xs : Nat → Int) (w : World) (hA : DataAt w A n b o xs) (hn : (n : Int) ≤ 1000000) (hc : n ≤ c) (fr tz fi la : Int) (hva : vS s n xs = false) :
    Calls Try.prog 34 #[.agg (s.cs A n c), iv fr, iv tz, iv fi, iv la] w fun e w' => e = .returned (.tuple #[.agg (S.zero.cs none 0 0), iv 1]) ∧ Below w.heap.size w w' := by
  have hB0 : Below w.heap.size w ((((((w.alloc (Obj.cells (s.cs A n c) 24)).alloc (Obj.cells #[iv fr] 3)).alloc (Obj.cells #[iv tz] 3)).alloc (Obj.cells #[iv fi] 3)).alloc (Obj.cells #[iv la] 3)).alloc (Obj.cells #[Value.string ⟨#[]⟩, Value.slice none 0 0, iv 0, iv 0, iv 0, iv 0, iv 0, iv 0, iv 0, iv 0, iv 0, iv 0, iv 0] 24)) := ((((((Below.refl _ _).alloc (Nat.le_refl _) _).alloc (by simp) _).alloc (by simp; omega) _).alloc (by simp; omega) _).alloc (by simp; omega) _).alloc (by simp; omega) _
  obtain ⟨y0, y1, y2, y3, y4, y5⟩ := al6 w (Obj.cells (s.cs A n c) 24) (Obj.cells #[iv fr] 3) (Obj.cells #[iv tz] 3) (Obj.cells #[iv fi] 3) (Obj.cells #[iv la] 3) (Obj.cells #[Value.string ⟨#[]⟩, Value.slice none 0 0, iv 0, iv 0, iv 0, iv 0, iv 0, iv 0, iv 0, iv 0, iv 0, iv 0, iv 0] 24)
  have P0 := Lib.hid y0
  have J0 := Lib.hid y1
  have K0 := Lib.hid y2
  have L0 := Lib.hid y3
  have M0 := Lib.hid y4
  have R0 := Lib.hid y5
  clear y0 y1 y2 y3 y4 y5
  have HD := Lib.hid hA
  have TD := Lib.hid hA.top
  clear hA
  have l0 : (0 : Int) ≤ (n : Int) := by omega
  go_enter Try.func34, Try.ntmps34
  go_wp2_with (first
    | (refine wpList_load_row rfl 24 (.tmp 5) rfl (w.heap.size) rfl 24 _ (0, 0) _ P0.out Try.underlying24 rfl (S.i24 _ _ _ _) ?_)
    | (go_at_call 44; (with_reducible refine (valid_any s A n c b o xs (by omega) hc _ (HD.out.later hB0)).mono ?_); rintro e w1 ⟨rfl, hb1⟩; have P1 := Lib.hid (bkBelow P0.out hb1); have J1 := Lib.hid (bkBelow J0.out hb1); have K1 := Lib.hid (bkBelow K0.out hb1); have L1 := Lib.hid (bkBelow L0.out hb1); have M1 := Lib.hid (bkBelow M0.out hb1); have R1 := Lib.hid (bkBelow R0.out hb1); have B1 := bdT hB0 hB0.size hb1; have p1 := (bkCell P1.out 1).trans (show _ = some (Value.slice A n c) from rfl); have j1 := (bkCell J1.out 0).trans (show _ = some (iv fr) from rfl); have k1 := (bkCell K1.out 0).trans (show _ = some (iv tz) from rfl); have l1 := (bkCell L1.out 0).trans (show _ = some (iv fi) from rfl); have m1 := (bkCell M1.out 0).trans (show _ = some (iv la) from rfl);  simp only [hva])
    | (refine wpBuild0 rfl 24 rfl (S.zero.cs none 0 0) built24 ?_)
    | (refine wpList_store_row rfl 24 (.tmp 10) (.tmp 15) rfl (w.heap.size + 1 + 1 + 1 + 1 + 1) (S.zero.cs none 0 0) rfl rfl 24 _ R1.out (S.i24 _ _ _ _) (S.sz S.zero S.zero none none 0 0 0 0) (S.one _ _ _ _) ?_))
  refine bodyPost_ret (res_ct rfl _ _ (w.heap.size + 1 + 1 + 1 + 1 + 1) 24 _ (0, 0) _ rfl (setRow_heap _ _ _ _ _ _ R1.out) Try.underlying24 rfl (S.i24 _ _ _ _)) rfl ⟨rfl, below_setRow B1 (by omega) _⟩
set_option maxHeartbeats 16000000 in
set_option maxRecDepth 100000 in
theorem rfade_bad (s : S) (A : Option Addr) (n c b o : Nat) (xs : Nat → Int) (w : World) (hA : DataAt w A n b o xs) (hn : (n : Int) ≤ 1000000) (hc : n ≤ c) (fr tz fi la : Int) (hva : vS s n xs = false) :
    Calls Try.prog 35 #[.agg (s.cs A n c), iv fr, iv tz, iv fi, iv la] w fun e w' => e = .returned (.tuple #[.agg (S.zero.cs none 0 0), iv 1]) ∧ Below w.heap.size w w' := by
  have hB0 : Below w.heap.size w ((w.alloc (Obj.cells (s.cs A n c) 24)).alloc (Obj.cells #[Value.string ⟨#[]⟩, Value.slice none 0 0, iv 0, iv 0, iv 0, iv 0, iv 0, iv 0, iv 0, iv 0, iv 0, iv 0, iv 0] 24)) := ((Below.refl _ _).alloc (Nat.le_refl _) _).alloc (by simp) _
  have P0 := Lib.hid (heap_alloc2_old w (Obj.cells (s.cs A n c) 24) (Obj.cells #[Value.string ⟨#[]⟩, Value.slice none 0 0, iv 0, iv 0, iv 0, iv 0, iv 0, iv 0, iv 0, iv 0, iv 0, iv 0, iv 0] 24))
  have R0 := Lib.hid (heap_alloc2_new w (Obj.cells (s.cs A n c) 24) (Obj.cells #[Value.string ⟨#[]⟩, Value.slice none 0 0, iv 0, iv 0, iv 0, iv 0, iv 0, iv 0, iv 0, iv 0, iv 0, iv 0, iv 0] 24))
  have HD := Lib.hid hA
  have TD := Lib.hid hA.top
  clear hA
  have l0 : (0 : Int) ≤ (n : Int) := by omega
  go_enter Try.func35, Try.ntmps35
  go_wp2_with (first
    | (refine wpList_load_row rfl 24 (.tmp 5) rfl (w.heap.size) rfl 24 _ (0, 0) _ P0.out Try.underlying24 rfl (S.i24 _ _ _ _) ?_)
    | (go_at_call 26; (with_reducible refine (rvalid_any s A n c b o xs (by omega) hc _ (HD.out.later hB0)).mono ?_); rintro e w1 ⟨rfl, hb1⟩; have P1 := Lib.hid (bkBelow P0.out hb1); have R1 := Lib.hid (bkBelow R0.out hb1); have B1 := bdT hB0 hB0.size hb1; have p1 := (bkCell P1.out 1).trans (show _ = some (Value.slice A n c) from rfl);  simp only [hva])
    | (refine wpBuild0 rfl 24 rfl (S.zero.cs none 0 0) built24 ?_)
    | (refine wpList_store_row rfl 24 (.tmp 10) (.tmp 17) rfl (w.heap.size + 1) (S.zero.cs none 0 0) rfl rfl 24 _ R1.out (S.i24 _ _ _ _) (S.sz S.zero S.zero none none 0 0 0 0) (S.one _ _ _ _) ?_))
  refine bodyPost_ret (res_ct rfl _ _ (w.heap.size + 1) 24 _ (0, 0) _ rfl (setRow_heap _ _ _ _ _ _ R1.out) Try.underlying24 rfl (S.i24 _ _ _ _)) rfl ⟨rfl, below_setRow B1 (by omega) _⟩
set_option maxHeartbeats 16000000 in
set_option maxRecDepth 100000 in
theorem fade_e1 (s : S) (A : Option Addr) (n c b o : Nat) (xs : Nat → Int) (w : World) (hA : DataAt w A n b o xs) (hn : (n : Int) ≤ 1000000) (hc : n ≤ c) (fr tz fi la : Int) (hva : vS s n xs = true) (h1 : fr < 0) :
    Calls Try.prog 34 #[.agg (s.cs A n c), iv fr, iv tz, iv fi, iv la] w fun e w' => e = .returned (.tuple #[.agg (S.zero.cs none 0 0), iv 5]) ∧ Below w.heap.size w w' := by
  have hB0 : Below w.heap.size w ((((((w.alloc (Obj.cells (s.cs A n c) 24)).alloc (Obj.cells #[iv fr] 3)).alloc (Obj.cells #[iv tz] 3)).alloc (Obj.cells #[iv fi] 3)).alloc (Obj.cells #[iv la] 3)).alloc (Obj.cells #[Value.string ⟨#[]⟩, Value.slice none 0 0, iv 0, iv 0, iv 0, iv 0, iv 0, iv 0, iv 0, iv 0, iv 0, iv 0, iv 0] 24)) := ((((((Below.refl _ _).alloc (Nat.le_refl _) _).alloc (by simp) _).alloc (by simp; omega) _).alloc (by simp; omega) _).alloc (by simp; omega) _).alloc (by simp; omega) _
  obtain ⟨y0, y1, y2, y3, y4, y5⟩ := al6 w (Obj.cells (s.cs A n c) 24) (Obj.cells #[iv fr] 3) (Obj.cells #[iv tz] 3) (Obj.cells #[iv fi] 3) (Obj.cells #[iv la] 3) (Obj.cells #[Value.string ⟨#[]⟩, Value.slice none 0 0, iv 0, iv 0, iv 0, iv 0, iv 0, iv 0, iv 0, iv 0, iv 0, iv 0, iv 0] 24)
  have P0 := Lib.hid y0
  have J0 := Lib.hid y1
  have K0 := Lib.hid y2
  have L0 := Lib.hid y3
  have M0 := Lib.hid y4
  have R0 := Lib.hid y5
  clear y0 y1 y2 y3 y4 y5
  have HD := Lib.hid hA
  have TD := Lib.hid hA.top
  clear hA
  have l0 : (0 : Int) ≤ (n : Int) := by omega
  have d1 : decide (fr < 0) = true := decide_eq_true (by omega)
  go_enter Try.func34, Try.ntmps34
  go_wp2_with (first
    | (refine wpList_load_row rfl 24 (.tmp 5) rfl (w.heap.size) rfl 24 _ (0, 0) _ P0.out Try.underlying24 rfl (S.i24 _ _ _ _) ?_)
    | (go_at_call 44; (with_reducible refine (valid_any s A n c b o xs (by omega) hc _ (HD.out.later hB0)).mono ?_); rintro e w1 ⟨rfl, hb1⟩; have P1 := Lib.hid (bkBelow P0.out hb1); have J1 := Lib.hid (bkBelow J0.out hb1); have K1 := Lib.hid (bkBelow K0.out hb1); have L1 := Lib.hid (bkBelow L0.out hb1); have M1 := Lib.hid (bkBelow M0.out hb1); have R1 := Lib.hid (bkBelow R0.out hb1); have B1 := bdT hB0 hB0.size hb1; have p1 := (bkCell P1.out 1).trans (show _ = some (Value.slice A n c) from rfl); have j1 := (bkCell J1.out 0).trans (show _ = some (iv fr) from rfl); have k1 := (bkCell K1.out 0).trans (show _ = some (iv tz) from rfl); have l1 := (bkCell L1.out 0).trans (show _ = some (iv fi) from rfl); have m1 := (bkCell M1.out 0).trans (show _ = some (iv la) from rfl);  simp only [hva])
    | (refine wpBuild0 rfl 24 rfl (S.zero.cs none 0 0) built24 ?_)
    | (refine wpList_store_row rfl 24 (.tmp 10) (.tmp 40) rfl (w.heap.size + 1 + 1 + 1 + 1 + 1) (S.zero.cs none 0 0) rfl rfl 24 _ R1.out (S.i24 _ _ _ _) (S.sz S.zero S.zero none none 0 0 0 0) (S.one _ _ _ _) ?_))
  refine bodyPost_ret (res_ct rfl _ _ (w.heap.size + 1 + 1 + 1 + 1 + 1) 24 _ (0, 0) _ rfl (setRow_heap _ _ _ _ _ _ R1.out) Try.underlying24 rfl (S.i24 _ _ _ _)) rfl ⟨rfl, below_setRow B1 (by omega) _⟩
set_option maxHeartbeats 16000000 in
set_option maxRecDepth 100000 in
theorem fade_e2 (s : S) (A : Option Addr) (n c b o : Nat) (xs : Nat → Int) (w : World) (hA : DataAt w A n b o xs) (hn : (n : Int) ≤ 1000000) (hc : n ≤ c) (fr tz fi la : Int) (hva : vS s n xs = true) (h1 : 0 ≤ fr) (h2 : tz < fr) :
    Calls Try.prog 34 #[.agg (s.cs A n c), iv fr, iv tz, iv fi, iv la] w fun e w' => e = .returned (.tuple #[.agg (S.zero.cs none 0 0), iv 5]) ∧ Below w.heap.size w w' := by
  have hB0 : Below w.heap.size w ((((((w.alloc (Obj.cells (s.cs A n c) 24)).alloc (Obj.cells #[iv fr] 3)).alloc (Obj.cells #[iv tz] 3)).alloc (Obj.cells #[iv fi] 3)).alloc (Obj.cells #[iv la] 3)).alloc (Obj.cells #[Value.string ⟨#[]⟩, Value.slice none 0 0, iv 0, iv 0, iv 0, iv 0, iv 0, iv 0, iv 0, iv 0, iv 0, iv 0, iv 0] 24)) := ((((((Below.refl _ _).alloc (Nat.le_refl _) _).alloc (by simp) _).alloc (by simp; omega) _).alloc (by simp; omega) _).alloc (by simp; omega) _).alloc (by simp; omega) _
  obtain ⟨y0, y1, y2, y3, y4, y5⟩ := al6 w (Obj.cells (s.cs A n c) 24) (Obj.cells #[iv fr] 3) (Obj.cells #[iv tz] 3) (Obj.cells #[iv fi] 3) (Obj.cells #[iv la] 3) (Obj.cells #[Value.string ⟨#[]⟩, Value.slice none 0 0, iv 0, iv 0, iv 0, iv 0, iv 0, iv 0, iv 0, iv 0, iv 0, iv 0, iv 0] 24)
  have P0 := Lib.hid y0
  have J0 := Lib.hid y1
  have K0 := Lib.hid y2
  have L0 := Lib.hid y3
  have M0 := Lib.hid y4
  have R0 := Lib.hid y5
  clear y0 y1 y2 y3 y4 y5
  have HD := Lib.hid hA
  have TD := Lib.hid hA.top
  clear hA
  have l0 : (0 : Int) ≤ (n : Int) := by omega
  have d1 : decide (fr < 0) = false := decide_eq_false (by omega)
  have d2 : decide (tz < fr) = true := decide_eq_true (by omega)
  go_enter Try.func34, Try.ntmps34
  go_wp2_with (first
    | (refine wpList_load_row rfl 24 (.tmp 5) rfl (w.heap.size) rfl 24 _ (0, 0) _ P0.out Try.underlying24 rfl (S.i24 _ _ _ _) ?_)
    | (go_at_call 44; (with_reducible refine (valid_any s A n c b o xs (by omega) hc _ (HD.out.later hB0)).mono ?_); rintro e w1 ⟨rfl, hb1⟩; have P1 := Lib.hid (bkBelow P0.out hb1); have J1 := Lib.hid (bkBelow J0.out hb1); have K1 := Lib.hid (bkBelow K0.out hb1); have L1 := Lib.hid (bkBelow L0.out hb1); have M1 := Lib.hid (bkBelow M0.out hb1); have R1 := Lib.hid (bkBelow R0.out hb1); have B1 := bdT hB0 hB0.size hb1; have p1 := (bkCell P1.out 1).trans (show _ = some (Value.slice A n c) from rfl); have j1 := (bkCell J1.out 0).trans (show _ = some (iv fr) from rfl); have k1 := (bkCell K1.out 0).trans (show _ = some (iv tz) from rfl); have l1 := (bkCell L1.out 0).trans (show _ = some (iv fi) from rfl); have m1 := (bkCell M1.out 0).trans (show _ = some (iv la) from rfl);  simp only [hva])
    | (refine wpBuild0 rfl 24 rfl (S.zero.cs none 0 0) built24 ?_)
    | (refine wpList_store_row rfl 24 (.tmp 10) (.tmp 40) rfl (w.heap.size + 1 + 1 + 1 + 1 + 1) (S.zero.cs none 0 0) rfl rfl 24 _ R1.out (S.i24 _ _ _ _) (S.sz S.zero S.zero none none 0 0 0 0) (S.one _ _ _ _) ?_))
  refine bodyPost_ret (res_ct rfl _ _ (w.heap.size + 1 + 1 + 1 + 1 + 1) 24 _ (0, 0) _ rfl (setRow_heap _ _ _ _ _ _ R1.out) Try.underlying24 rfl (S.i24 _ _ _ _)) rfl ⟨rfl, below_setRow B1 (by omega) _⟩
set_option maxHeartbeats 16000000 in
set_option maxRecDepth 100000 in
theorem fade_e3 (s : S) (A : Option Addr) (n c b o : Nat) (xs : Nat → Int) (w : World) (hA : DataAt w A n b o xs) (hn : (n : Int) ≤ 1000000) (hc : n ≤ c) (fr tz fi la : Int) (hva : vS s n xs = true) (h1 : 0 ≤ fr) (h2 : fr ≤ tz) (h3 : (n : Int) < tz) :
    Calls Try.prog 34 #[.agg (s.cs A n c), iv fr, iv tz, iv fi, iv la] w fun e w' => e = .returned (.tuple #[.agg (S.zero.cs none 0 0), iv 5]) ∧ Below w.heap.size w w' := by
  have hB0 : Below w.heap.size w ((((((w.alloc (Obj.cells (s.cs A n c) 24)).alloc (Obj.cells #[iv fr] 3)).alloc (Obj.cells #[iv tz] 3)).alloc (Obj.cells #[iv fi] 3)).alloc (Obj.cells #[iv la] 3)).alloc (Obj.cells #[Value.string ⟨#[]⟩, Value.slice none 0 0, iv 0, iv 0, iv 0, iv 0, iv 0, iv 0, iv 0, iv 0, iv 0, iv 0, iv 0] 24)) := ((((((Below.refl _ _).alloc (Nat.le_refl _) _).alloc (by simp) _).alloc (by simp; omega) _).alloc (by simp; omega) _).alloc (by simp; omega) _).alloc (by simp; omega) _
  obtain ⟨y0, y1, y2, y3, y4, y5⟩ := al6 w (Obj.cells (s.cs A n c) 24) (Obj.cells #[iv fr] 3) (Obj.cells #[iv tz] 3) (Obj.cells #[iv fi] 3) (Obj.cells #[iv la] 3) (Obj.cells #[Value.string ⟨#[]⟩, Value.slice none 0 0, iv 0, iv 0, iv 0, iv 0, iv 0, iv 0, iv 0, iv 0, iv 0, iv 0, iv 0] 24)
  have P0 := Lib.hid y0
  have J0 := Lib.hid y1
  have K0 := Lib.hid y2
  have L0 := Lib.hid y3
  have M0 := Lib.hid y4
  have R0 := Lib.hid y5
  clear y0 y1 y2 y3 y4 y5
  have HD := Lib.hid hA
  have TD := Lib.hid hA.top
  clear hA
  have l0 : (0 : Int) ≤ (n : Int) := by omega
  have d1 : decide (fr < 0) = false := decide_eq_false (by omega)
  have d2 : decide (tz < fr) = false := decide_eq_false (by omega)
  have d3 : decide ((n : Int) < tz) = true := decide_eq_true (by omega)
  go_enter Try.func34, Try.ntmps34
  go_wp2_with (first
    | (refine wpList_load_row rfl 24 (.tmp 5) rfl (w.heap.size) rfl 24 _ (0, 0) _ P0.out Try.underlying24 rfl (S.i24 _ _ _ _) ?_)
    | (go_at_call 44; (with_reducible refine (valid_any s A n c b o xs (by omega) hc _ (HD.out.later hB0)).mono ?_); rintro e w1 ⟨rfl, hb1⟩; have P1 := Lib.hid (bkBelow P0.out hb1); have J1 := Lib.hid (bkBelow J0.out hb1); have K1 := Lib.hid (bkBelow K0.out hb1); have L1 := Lib.hid (bkBelow L0.out hb1); have M1 := Lib.hid (bkBelow M0.out hb1); have R1 := Lib.hid (bkBelow R0.out hb1); have B1 := bdT hB0 hB0.size hb1; have p1 := (bkCell P1.out 1).trans (show _ = some (Value.slice A n c) from rfl); have j1 := (bkCell J1.out 0).trans (show _ = some (iv fr) from rfl); have k1 := (bkCell K1.out 0).trans (show _ = some (iv tz) from rfl); have l1 := (bkCell L1.out 0).trans (show _ = some (iv fi) from rfl); have m1 := (bkCell M1.out 0).trans (show _ = some (iv la) from rfl);  simp only [hva])
    | (refine wpBuild0 rfl 24 rfl (S.zero.cs none 0 0) built24 ?_)
    | (refine wpList_store_row rfl 24 (.tmp 10) (.tmp 40) rfl (w.heap.size + 1 + 1 + 1 + 1 + 1) (S.zero.cs none 0 0) rfl rfl 24 _ R1.out (S.i24 _ _ _ _) (S.sz S.zero S.zero none none 0 0 0 0) (S.one _ _ _ _) ?_))
  refine bodyPost_ret (res_ct rfl _ _ (w.heap.size + 1 + 1 + 1 + 1 + 1) 24 _ (0, 0) _ rfl (setRow_heap _ _ _ _ _ _ R1.out) Try.underlying24 rfl (S.i24 _ _ _ _)) rfl ⟨rfl, below_setRow B1 (by omega) _⟩
set_option maxHeartbeats 16000000 in
set_option maxRecDepth 100000 in
theorem fade_e4 (s : S) (A : Option Addr) (n c b o : Nat) (xs : Nat → Int) (w : World) (hA : DataAt w A n b o xs) (hn : (n : Int) ≤ 1000000) (hc : n ≤ c) (fr tz fi la : Int) (hva : vS s n xs = true) (h1 : 0 ≤ fr) (h2 : fr ≤ tz) (h3 : tz ≤ (n : Int)) (h4 : (fi < 0 ∨ 10000 < fi)) :
    Calls Try.prog 34 #[.agg (s.cs A n c), iv fr, iv tz, iv fi, iv la] w fun e w' => e = .returned (.tuple #[.agg (S.zero.cs none 0 0), iv 5]) ∧ Below w.heap.size w w' := by
  have hB0 : Below w.heap.size w ((((((w.alloc (Obj.cells (s.cs A n c) 24)).alloc (Obj.cells #[iv fr] 3)).alloc (Obj.cells #[iv tz] 3)).alloc (Obj.cells #[iv fi] 3)).alloc (Obj.cells #[iv la] 3)).alloc (Obj.cells #[Value.string ⟨#[]⟩, Value.slice none 0 0, iv 0, iv 0, iv 0, iv 0, iv 0, iv 0, iv 0, iv 0, iv 0, iv 0, iv 0] 24)) := ((((((Below.refl _ _).alloc (Nat.le_refl _) _).alloc (by simp) _).alloc (by simp; omega) _).alloc (by simp; omega) _).alloc (by simp; omega) _).alloc (by simp; omega) _
  obtain ⟨y0, y1, y2, y3, y4, y5⟩ := al6 w (Obj.cells (s.cs A n c) 24) (Obj.cells #[iv fr] 3) (Obj.cells #[iv tz] 3) (Obj.cells #[iv fi] 3) (Obj.cells #[iv la] 3) (Obj.cells #[Value.string ⟨#[]⟩, Value.slice none 0 0, iv 0, iv 0, iv 0, iv 0, iv 0, iv 0, iv 0, iv 0, iv 0, iv 0, iv 0] 24)
  have P0 := Lib.hid y0
  have J0 := Lib.hid y1
  have K0 := Lib.hid y2
  have L0 := Lib.hid y3
  have M0 := Lib.hid y4
  have R0 := Lib.hid y5
  clear y0 y1 y2 y3 y4 y5
  have HD := Lib.hid hA
  have TD := Lib.hid hA.top
  clear hA
  have l0 : (0 : Int) ≤ (n : Int) := by omega
  have d1 : decide (fr < 0) = false := decide_eq_false (by omega)
  have d2 : decide (tz < fr) = false := decide_eq_false (by omega)
  have d3 : decide ((n : Int) < tz) = false := decide_eq_false (by omega)
  have H4 := Lib.hid h4
  clear h4
  go_enter Try.func34, Try.ntmps34
  go_wp2_with (first
    | (refine wpList_load_row rfl 24 (.tmp 5) rfl (w.heap.size) rfl 24 _ (0, 0) _ P0.out Try.underlying24 rfl (S.i24 _ _ _ _) ?_)
    | (go_at_call 44; (with_reducible refine (valid_any s A n c b o xs (by omega) hc _ (HD.out.later hB0)).mono ?_); rintro e w1 ⟨rfl, hb1⟩; have P1 := Lib.hid (bkBelow P0.out hb1); have J1 := Lib.hid (bkBelow J0.out hb1); have K1 := Lib.hid (bkBelow K0.out hb1); have L1 := Lib.hid (bkBelow L0.out hb1); have M1 := Lib.hid (bkBelow M0.out hb1); have R1 := Lib.hid (bkBelow R0.out hb1); have B1 := bdT hB0 hB0.size hb1; have p1 := (bkCell P1.out 1).trans (show _ = some (Value.slice A n c) from rfl); have j1 := (bkCell J1.out 0).trans (show _ = some (iv fr) from rfl); have k1 := (bkCell K1.out 0).trans (show _ = some (iv tz) from rfl); have l1 := (bkCell L1.out 0).trans (show _ = some (iv fi) from rfl); have m1 := (bkCell M1.out 0).trans (show _ = some (iv la) from rfl);  simp only [hva])
    | (go_at_call 45; (with_reducible refine (in_no fi 0 10000 _ H4.out).mono ?_); rintro e w5 ⟨rfl, rfl⟩)
    | (refine wpBuild0 rfl 24 rfl (S.zero.cs none 0 0) built24 ?_)
    | (refine wpList_store_row rfl 24 (.tmp 10) (.tmp 40) rfl (w.heap.size + 1 + 1 + 1 + 1 + 1) (S.zero.cs none 0 0) rfl rfl 24 _ R1.out (S.i24 _ _ _ _) (S.sz S.zero S.zero none none 0 0 0 0) (S.one _ _ _ _) ?_))
  refine bodyPost_ret (res_ct rfl _ _ (w.heap.size + 1 + 1 + 1 + 1 + 1) 24 _ (0, 0) _ rfl (setRow_heap _ _ _ _ _ _ R1.out) Try.underlying24 rfl (S.i24 _ _ _ _)) rfl ⟨rfl, below_setRow B1 (by omega) _⟩
set_option maxHeartbeats 16000000 in
set_option maxRecDepth 100000 in
theorem fade_e5 (s : S) (A : Option Addr) (n c b o : Nat) (xs : Nat → Int) (w : World) (hA : DataAt w A n b o xs) (hn : (n : Int) ≤ 1000000) (hc : n ≤ c) (fr tz fi la : Int) (hva : vS s n xs = true) (h1 : 0 ≤ fr) (h2 : fr ≤ tz) (h3 : tz ≤ (n : Int)) (h5 : 0 ≤ fi ∧ fi ≤ 10000) (h4 : (la < 0 ∨ 10000 < la)) :
    Calls Try.prog 34 #[.agg (s.cs A n c), iv fr, iv tz, iv fi, iv la] w fun e w' => e = .returned (.tuple #[.agg (S.zero.cs none 0 0), iv 5]) ∧ Below w.heap.size w w' := by
  have hB0 : Below w.heap.size w ((((((w.alloc (Obj.cells (s.cs A n c) 24)).alloc (Obj.cells #[iv fr] 3)).alloc (Obj.cells #[iv tz] 3)).alloc (Obj.cells #[iv fi] 3)).alloc (Obj.cells #[iv la] 3)).alloc (Obj.cells #[Value.string ⟨#[]⟩, Value.slice none 0 0, iv 0, iv 0, iv 0, iv 0, iv 0, iv 0, iv 0, iv 0, iv 0, iv 0, iv 0] 24)) := ((((((Below.refl _ _).alloc (Nat.le_refl _) _).alloc (by simp) _).alloc (by simp; omega) _).alloc (by simp; omega) _).alloc (by simp; omega) _).alloc (by simp; omega) _
  obtain ⟨y0, y1, y2, y3, y4, y5⟩ := al6 w (Obj.cells (s.cs A n c) 24) (Obj.cells #[iv fr] 3) (Obj.cells #[iv tz] 3) (Obj.cells #[iv fi] 3) (Obj.cells #[iv la] 3) (Obj.cells #[Value.string ⟨#[]⟩, Value.slice none 0 0, iv 0, iv 0, iv 0, iv 0, iv 0, iv 0, iv 0, iv 0, iv 0, iv 0, iv 0] 24)
  have P0 := Lib.hid y0
  have J0 := Lib.hid y1
  have K0 := Lib.hid y2
  have L0 := Lib.hid y3
  have M0 := Lib.hid y4
  have R0 := Lib.hid y5
  clear y0 y1 y2 y3 y4 y5
  have HD := Lib.hid hA
  have TD := Lib.hid hA.top
  clear hA
  have l0 : (0 : Int) ≤ (n : Int) := by omega
  have d1 : decide (fr < 0) = false := decide_eq_false (by omega)
  have d2 : decide (tz < fr) = false := decide_eq_false (by omega)
  have d3 : decide ((n : Int) < tz) = false := decide_eq_false (by omega)
  have H4 := Lib.hid h4
  clear h4
  go_enter Try.func34, Try.ntmps34
  go_wp2_with (first
    | (refine wpList_load_row rfl 24 (.tmp 5) rfl (w.heap.size) rfl 24 _ (0, 0) _ P0.out Try.underlying24 rfl (S.i24 _ _ _ _) ?_)
    | (go_at_call 44; (with_reducible refine (valid_any s A n c b o xs (by omega) hc _ (HD.out.later hB0)).mono ?_); rintro e w1 ⟨rfl, hb1⟩; have P1 := Lib.hid (bkBelow P0.out hb1); have J1 := Lib.hid (bkBelow J0.out hb1); have K1 := Lib.hid (bkBelow K0.out hb1); have L1 := Lib.hid (bkBelow L0.out hb1); have M1 := Lib.hid (bkBelow M0.out hb1); have R1 := Lib.hid (bkBelow R0.out hb1); have B1 := bdT hB0 hB0.size hb1; have p1 := (bkCell P1.out 1).trans (show _ = some (Value.slice A n c) from rfl); have j1 := (bkCell J1.out 0).trans (show _ = some (iv fr) from rfl); have k1 := (bkCell K1.out 0).trans (show _ = some (iv tz) from rfl); have l1 := (bkCell L1.out 0).trans (show _ = some (iv fi) from rfl); have m1 := (bkCell M1.out 0).trans (show _ = some (iv la) from rfl);  simp only [hva])
    | (go_at_call 45; (with_reducible refine (in_yes fi 0 10000 _ h5.1 h5.2).mono ?_); rintro e w5 ⟨rfl, rfl⟩)
    | (go_at_call 45; (with_reducible refine (in_no la 0 10000 _ H4.out).mono ?_); rintro e w5 ⟨rfl, rfl⟩)
    | (refine wpBuild0 rfl 24 rfl (S.zero.cs none 0 0) built24 ?_)
    | (refine wpList_store_row rfl 24 (.tmp 10) (.tmp 40) rfl (w.heap.size + 1 + 1 + 1 + 1 + 1) (S.zero.cs none 0 0) rfl rfl 24 _ R1.out (S.i24 _ _ _ _) (S.sz S.zero S.zero none none 0 0 0 0) (S.one _ _ _ _) ?_))
  refine bodyPost_ret (res_ct rfl _ _ (w.heap.size + 1 + 1 + 1 + 1 + 1) 24 _ (0, 0) _ rfl (setRow_heap _ _ _ _ _ _ R1.out) Try.underlying24 rfl (S.i24 _ _ _ _)) rfl ⟨rfl, below_setRow B1 (by omega) _⟩
set_option maxHeartbeats 16000000 in
set_option maxRecDepth 100000 in
theorem rfade_e1 (s : S) (A : Option Addr) (n c b o : Nat) (xs : Nat → Int) (w : World) (hA : DataAt w A n b o xs) (hn : (n : Int) ≤ 1000000) (hc : n ≤ c) (fr tz fi la : Int) (hva : vS s n xs = true) (h4 : fr < 0 ∨ (n : Int) < fr) :
    Calls Try.prog 35 #[.agg (s.cs A n c), iv fr, iv tz, iv fi, iv la] w fun e w' => e = .returned (.tuple #[.agg (S.zero.cs none 0 0), iv 5]) ∧ Below w.heap.size w w' := by
  have hB0 : Below w.heap.size w ((w.alloc (Obj.cells (s.cs A n c) 24)).alloc (Obj.cells #[Value.string ⟨#[]⟩, Value.slice none 0 0, iv 0, iv 0, iv 0, iv 0, iv 0, iv 0, iv 0, iv 0, iv 0, iv 0, iv 0] 24)) := ((Below.refl _ _).alloc (Nat.le_refl _) _).alloc (by simp) _
  have P0 := Lib.hid (heap_alloc2_old w (Obj.cells (s.cs A n c) 24) (Obj.cells #[Value.string ⟨#[]⟩, Value.slice none 0 0, iv 0, iv 0, iv 0, iv 0, iv 0, iv 0, iv 0, iv 0, iv 0, iv 0, iv 0] 24))
  have R0 := Lib.hid (heap_alloc2_new w (Obj.cells (s.cs A n c) 24) (Obj.cells #[Value.string ⟨#[]⟩, Value.slice none 0 0, iv 0, iv 0, iv 0, iv 0, iv 0, iv 0, iv 0, iv 0, iv 0, iv 0, iv 0] 24))
  have HD := Lib.hid hA
  have TD := Lib.hid hA.top
  clear hA
  have l0 : (0 : Int) ≤ (n : Int) := by omega
  have H4 := Lib.hid h4
  clear h4
  go_enter Try.func35, Try.ntmps35
  go_wp2_with (first
    | (refine wpList_load_row rfl 24 (.tmp 5) rfl (w.heap.size) rfl 24 _ (0, 0) _ P0.out Try.underlying24 rfl (S.i24 _ _ _ _) ?_)
    | (go_at_call 26; (with_reducible refine (rvalid_any s A n c b o xs (by omega) hc _ (HD.out.later hB0)).mono ?_); rintro e w1 ⟨rfl, hb1⟩; have P1 := Lib.hid (bkBelow P0.out hb1); have R1 := Lib.hid (bkBelow R0.out hb1); have B1 := bdT hB0 hB0.size hb1; have p1 := (bkCell P1.out 1).trans (show _ = some (Value.slice A n c) from rfl);  simp only [hva])
    | (go_at_call 48; (with_reducible refine (rin_no fr 0 n _ H4.out).mono ?_); rintro e w5 ⟨rfl, rfl⟩)
    | (refine wpBuild0 rfl 24 rfl (S.zero.cs none 0 0) built24 ?_)
    | (refine wpList_store_row rfl 24 (.tmp 10) (.tmp 43) rfl (w.heap.size + 1) (S.zero.cs none 0 0) rfl rfl 24 _ R1.out (S.i24 _ _ _ _) (S.sz S.zero S.zero none none 0 0 0 0) (S.one _ _ _ _) ?_))
  refine bodyPost_ret (res_ct rfl _ _ (w.heap.size + 1) 24 _ (0, 0) _ rfl (setRow_heap _ _ _ _ _ _ R1.out) Try.underlying24 rfl (S.i24 _ _ _ _)) rfl ⟨rfl, below_setRow B1 (by omega) _⟩
set_option maxHeartbeats 16000000 in
set_option maxRecDepth 100000 in
theorem rfade_e2 (s : S) (A : Option Addr) (n c b o : Nat) (xs : Nat → Int) (w : World) (hA : DataAt w A n b o xs) (hn : (n : Int) ≤ 1000000) (hc : n ≤ c) (fr tz fi la : Int) (hva : vS s n xs = true) (h1 : 0 ≤ fr ∧ fr ≤ (n : Int)) (h4 : tz < fr ∨ (n : Int) < tz) :
    Calls Try.prog 35 #[.agg (s.cs A n c), iv fr, iv tz, iv fi, iv la] w fun e w' => e = .returned (.tuple #[.agg (S.zero.cs none 0 0), iv 5]) ∧ Below w.heap.size w w' := by
  have hB0 : Below w.heap.size w ((w.alloc (Obj.cells (s.cs A n c) 24)).alloc (Obj.cells #[Value.string ⟨#[]⟩, Value.slice none 0 0, iv 0, iv 0, iv 0, iv 0, iv 0, iv 0, iv 0, iv 0, iv 0, iv 0, iv 0] 24)) := ((Below.refl _ _).alloc (Nat.le_refl _) _).alloc (by simp) _
  have P0 := Lib.hid (heap_alloc2_old w (Obj.cells (s.cs A n c) 24) (Obj.cells #[Value.string ⟨#[]⟩, Value.slice none 0 0, iv 0, iv 0, iv 0, iv 0, iv 0, iv 0, iv 0, iv 0, iv 0, iv 0, iv 0] 24))
  have R0 := Lib.hid (heap_alloc2_new w (Obj.cells (s.cs A n c) 24) (Obj.cells #[Value.string ⟨#[]⟩, Value.slice none 0 0, iv 0, iv 0, iv 0, iv 0, iv 0, iv 0, iv 0, iv 0, iv 0, iv 0, iv 0] 24))
  have HD := Lib.hid hA
  have TD := Lib.hid hA.top
  clear hA
  have l0 : (0 : Int) ≤ (n : Int) := by omega
  have H4 := Lib.hid h4
  clear h4
  go_enter Try.func35, Try.ntmps35
  go_wp2_with (first
    | (refine wpList_load_row rfl 24 (.tmp 5) rfl (w.heap.size) rfl 24 _ (0, 0) _ P0.out Try.underlying24 rfl (S.i24 _ _ _ _) ?_)
    | (go_at_call 26; (with_reducible refine (rvalid_any s A n c b o xs (by omega) hc _ (HD.out.later hB0)).mono ?_); rintro e w1 ⟨rfl, hb1⟩; have P1 := Lib.hid (bkBelow P0.out hb1); have R1 := Lib.hid (bkBelow R0.out hb1); have B1 := bdT hB0 hB0.size hb1; have p1 := (bkCell P1.out 1).trans (show _ = some (Value.slice A n c) from rfl);  simp only [hva])
    | (go_at_call 48; (with_reducible refine (rin_yes fr 0 n _ h1.1 h1.2).mono ?_); rintro e w5 ⟨rfl, rfl⟩)
    | (go_at_call 48; (with_reducible refine (rin_no tz fr n _ H4.out).mono ?_); rintro e w5 ⟨rfl, rfl⟩)
    | (refine wpBuild0 rfl 24 rfl (S.zero.cs none 0 0) built24 ?_)
    | (refine wpList_store_row rfl 24 (.tmp 10) (.tmp 43) rfl (w.heap.size + 1) (S.zero.cs none 0 0) rfl rfl 24 _ R1.out (S.i24 _ _ _ _) (S.sz S.zero S.zero none none 0 0 0 0) (S.one _ _ _ _) ?_))
  refine bodyPost_ret (res_ct rfl _ _ (w.heap.size + 1) 24 _ (0, 0) _ rfl (setRow_heap _ _ _ _ _ _ R1.out) Try.underlying24 rfl (S.i24 _ _ _ _)) rfl ⟨rfl, below_setRow B1 (by omega) _⟩
set_option maxHeartbeats 16000000 in
set_option maxRecDepth 100000 in
theorem rfade_e4 (s : S) (A : Option Addr) (n c b o : Nat) (xs : Nat → Int) (w : World) (hA : DataAt w A n b o xs) (hn : (n : Int) ≤ 1000000) (hc : n ≤ c) (fr tz fi la : Int) (hva : vS s n xs = true) (h1 : 0 ≤ fr ∧ fr ≤ (n : Int)) (h2 : fr ≤ tz ∧ tz ≤ (n : Int)) (h4 : (fi < 0 ∨ 10000 < fi)) :
    Calls Try.prog 35 #[.agg (s.cs A n c), iv fr, iv tz, iv fi, iv la] w fun e w' => e = .returned (.tuple #[.agg (S.zero.cs none 0 0), iv 5]) ∧ Below w.heap.size w w' := by
  have hB0 : Below w.heap.size w ((w.alloc (Obj.cells (s.cs A n c) 24)).alloc (Obj.cells #[Value.string ⟨#[]⟩, Value.slice none 0 0, iv 0, iv 0, iv 0, iv 0, iv 0, iv 0, iv 0, iv 0, iv 0, iv 0, iv 0] 24)) := ((Below.refl _ _).alloc (Nat.le_refl _) _).alloc (by simp) _
  have P0 := Lib.hid (heap_alloc2_old w (Obj.cells (s.cs A n c) 24) (Obj.cells #[Value.string ⟨#[]⟩, Value.slice none 0 0, iv 0, iv 0, iv 0, iv 0, iv 0, iv 0, iv 0, iv 0, iv 0, iv 0, iv 0] 24))
  have R0 := Lib.hid (heap_alloc2_new w (Obj.cells (s.cs A n c) 24) (Obj.cells #[Value.string ⟨#[]⟩, Value.slice none 0 0, iv 0, iv 0, iv 0, iv 0, iv 0, iv 0, iv 0, iv 0, iv 0, iv 0, iv 0] 24))
  have HD := Lib.hid hA
  have TD := Lib.hid hA.top
  clear hA
  have l0 : (0 : Int) ≤ (n : Int) := by omega
  have H4 := Lib.hid h4
  clear h4
  go_enter Try.func35, Try.ntmps35
  go_wp2_with (first
    | (refine wpList_load_row rfl 24 (.tmp 5) rfl (w.heap.size) rfl 24 _ (0, 0) _ P0.out Try.underlying24 rfl (S.i24 _ _ _ _) ?_)
    | (go_at_call 26; (with_reducible refine (rvalid_any s A n c b o xs (by omega) hc _ (HD.out.later hB0)).mono ?_); rintro e w1 ⟨rfl, hb1⟩; have P1 := Lib.hid (bkBelow P0.out hb1); have R1 := Lib.hid (bkBelow R0.out hb1); have B1 := bdT hB0 hB0.size hb1; have p1 := (bkCell P1.out 1).trans (show _ = some (Value.slice A n c) from rfl);  simp only [hva])
    | (go_at_call 48; (with_reducible refine (rin_yes fr 0 n _ h1.1 h1.2).mono ?_); rintro e w5 ⟨rfl, rfl⟩)
    | (go_at_call 48; (with_reducible refine (rin_yes tz fr n _ h2.1 h2.2).mono ?_); rintro e w5 ⟨rfl, rfl⟩)
    | (go_at_call 48; (with_reducible refine (rin_no fi 0 10000 _ H4.out).mono ?_); rintro e w5 ⟨rfl, rfl⟩)
    | (refine wpBuild0 rfl 24 rfl (S.zero.cs none 0 0) built24 ?_)
    | (refine wpList_store_row rfl 24 (.tmp 10) (.tmp 43) rfl (w.heap.size + 1) (S.zero.cs none 0 0) rfl rfl 24 _ R1.out (S.i24 _ _ _ _) (S.sz S.zero S.zero none none 0 0 0 0) (S.one _ _ _ _) ?_))
  refine bodyPost_ret (res_ct rfl _ _ (w.heap.size + 1) 24 _ (0, 0) _ rfl (setRow_heap _ _ _ _ _ _ R1.out) Try.underlying24 rfl (S.i24 _ _ _ _)) rfl ⟨rfl, below_setRow B1 (by omega) _⟩
set_option maxHeartbeats 16000000 in
set_option maxRecDepth 100000 in
theorem rfade_e5 (s : S) (A : Option Addr) (n c b o : Nat) (xs : Nat → Int) (w : World) (hA : DataAt w A n b o xs) (hn : (n : Int) ≤ 1000000) (hc : n ≤ c) (fr tz fi la : Int) (hva : vS s n xs = true) (h1 : 0 ≤ fr ∧ fr ≤ (n : Int)) (h2 : fr ≤ tz ∧ tz ≤ (n : Int)) (h5 : 0 ≤ fi ∧ fi ≤ 10000) (h4 : (la < 0 ∨ 10000 < la)) :
    Calls Try.prog 35 #[.agg (s.cs A n c), iv fr, iv tz, iv fi, iv la] w fun e w' => e = .returned (.tuple #[.agg (S.zero.cs none 0 0), iv 5]) ∧ Below w.heap.size w w' := by
  have hB0 : Below w.heap.size w ((w.alloc (Obj.cells (s.cs A n c) 24)).alloc (Obj.cells #[Value.string ⟨#[]⟩, Value.slice none 0 0, iv 0, iv 0, iv 0, iv 0, iv 0, iv 0, iv 0, iv 0, iv 0, iv 0, iv 0] 24)) := ((Below.refl _ _).alloc (Nat.le_refl _) _).alloc (by simp) _
  have P0 := Lib.hid (heap_alloc2_old w (Obj.cells (s.cs A n c) 24) (Obj.cells #[Value.string ⟨#[]⟩, Value.slice none 0 0, iv 0, iv 0, iv 0, iv 0, iv 0, iv 0, iv 0, iv 0, iv 0, iv 0, iv 0] 24))
  have R0 := Lib.hid (heap_alloc2_new w (Obj.cells (s.cs A n c) 24) (Obj.cells #[Value.string ⟨#[]⟩, Value.slice none 0 0, iv 0, iv 0, iv 0, iv 0, iv 0, iv 0, iv 0, iv 0, iv 0, iv 0, iv 0] 24))
  have HD := Lib.hid hA
  have TD := Lib.hid hA.top
  clear hA
  have l0 : (0 : Int) ≤ (n : Int) := by omega
  have H4 := Lib.hid h4
  clear h4
  go_enter Try.func35, Try.ntmps35
  go_wp2_with (first
    | (refine wpList_load_row rfl 24 (.tmp 5) rfl (w.heap.size) rfl 24 _ (0, 0) _ P0.out Try.underlying24 rfl (S.i24 _ _ _ _) ?_)
    | (go_at_call 26; (with_reducible refine (rvalid_any s A n c b o xs (by omega) hc _ (HD.out.later hB0)).mono ?_); rintro e w1 ⟨rfl, hb1⟩; have P1 := Lib.hid (bkBelow P0.out hb1); have R1 := Lib.hid (bkBelow R0.out hb1); have B1 := bdT hB0 hB0.size hb1; have p1 := (bkCell P1.out 1).trans (show _ = some (Value.slice A n c) from rfl);  simp only [hva])
    | (go_at_call 48; (with_reducible refine (rin_yes fr 0 n _ h1.1 h1.2).mono ?_); rintro e w5 ⟨rfl, rfl⟩)
    | (go_at_call 48; (with_reducible refine (rin_yes tz fr n _ h2.1 h2.2).mono ?_); rintro e w5 ⟨rfl, rfl⟩)
    | (go_at_call 48; (with_reducible refine (rin_yes fi 0 10000 _ h5.1 h5.2).mono ?_); rintro e w5 ⟨rfl, rfl⟩)
    | (go_at_call 48; (with_reducible refine (rin_no la 0 10000 _ H4.out).mono ?_); rintro e w5 ⟨rfl, rfl⟩)
    | (refine wpBuild0 rfl 24 rfl (S.zero.cs none 0 0) built24 ?_)
    | (refine wpList_store_row rfl 24 (.tmp 10) (.tmp 43) rfl (w.heap.size + 1) (S.zero.cs none 0 0) rfl rfl 24 _ R1.out (S.i24 _ _ _ _) (S.sz S.zero S.zero none none 0 0 0 0) (S.one _ _ _ _) ?_))
  refine bodyPost_ret (res_ct rfl _ _ (w.heap.size + 1) 24 _ (0, 0) _ rfl (setRow_heap _ _ _ _ _ _ R1.out) Try.underlying24 rfl (S.i24 _ _ _ _)) rfl ⟨rfl, below_setRow B1 (by omega) _⟩
/-- a frame of the faded sample -/
def fG (xs : Nat → Int) (fi la : Int) (f z i : Nat) : Int := if f ≤ i ∧ i < z then fv (xs i) fi la f z i else xs i
set_option maxHeartbeats 16000000 in
set_option maxRecDepth 100000 in
theorem fade_ok (s : S) (A : Option Addr) (n c b o : Nat) (xs : Nat → Int) (w : World) (hA : DataAt w A n b o xs) (hn : (n : Int) ≤ 1000000) (hc : n ≤ c) (fr tz fi la : Int) (h : Int) (hb : Bits s.a2 h) (hx : ∀ i, i < n → -h ≤ xs i ∧ xs i ≤ h - 1) (hva : vS s n xs = true) (f z : Nat) (h2 : f ≤ z) (h3 : z ≤ n) (h5 : 0 ≤ fi ∧ fi ≤ 10000) (h6 : 0 ≤ la ∧ la ≤ 10000) (hn4 : (n : Int) ≤ 4096) (hfr : fr = f) (htz : tz = z) :
    Calls Try.prog 34 #[.agg (s.cs A n c), iv fr, iv tz, iv fi, iv la] w fun e w' => ∃ A' c' b o, e = .returned (.tuple #[.agg (s.cs A' n c'), iv 0]) ∧ DataAt w' A' n b o (fun i => clp h (fG xs fi la f z i)) ∧ Below w.heap.size w w' := by
  have hB0 : Below w.heap.size w ((((((w.alloc (Obj.cells (s.cs A n c) 24)).alloc (Obj.cells #[iv fr] 3)).alloc (Obj.cells #[iv tz] 3)).alloc (Obj.cells #[iv fi] 3)).alloc (Obj.cells #[iv la] 3)).alloc (Obj.cells #[Value.string ⟨#[]⟩, Value.slice none 0 0, iv 0, iv 0, iv 0, iv 0, iv 0, iv 0, iv 0, iv 0, iv 0, iv 0, iv 0] 24)) := ((((((Below.refl _ _).alloc (Nat.le_refl _) _).alloc (by simp) _).alloc (by simp; omega) _).alloc (by simp; omega) _).alloc (by simp; omega) _).alloc (by simp; omega) _
  obtain ⟨y0, y1, y2, y3, y4, y5⟩ := al6 w (Obj.cells (s.cs A n c) 24) (Obj.cells #[iv fr] 3) (Obj.cells #[iv tz] 3) (Obj.cells #[iv fi] 3) (Obj.cells #[iv la] 3) (Obj.cells #[Value.string ⟨#[]⟩, Value.slice none 0 0, iv 0, iv 0, iv 0, iv 0, iv 0, iv 0, iv 0, iv 0, iv 0, iv 0, iv 0] 24)
  have P0 := Lib.hid y0
  have J0 := Lib.hid y1
  have K0 := Lib.hid y2
  have L0 := Lib.hid y3
  have M0 := Lib.hid y4
  have R0 := Lib.hid y5
  clear y0 y1 y2 y3 y4 y5
  have HD := Lib.hid hA
  have TD := Lib.hid hA.top
  clear hA
  have l0 : (0 : Int) ≤ (n : Int) := by omega
  have HBD := bits_bd hb
  have HX := Lib.hid (show ∀ j, j < n → -32768 ≤ xs j ∧ xs j ≤ 32768 from fun j hj => by have := hx j hj; omega)
  have HBT := Lib.hid hb
  have HU := Lib.hid (show f ≤ z ∧ z ≤ n ∧ (n : Int) ≤ 4096 ∧ n ≤ 1000000 from ⟨h2, h3, hn4, by omega⟩)
  have d1 : decide (fr < 0) = false := decide_eq_false (by omega)
  have d2 : decide (tz < fr) = false := decide_eq_false (by omega)
  have d3 : decide ((n : Int) < tz) = false := decide_eq_false (by omega)
  have HF := Lib.hid (And.intro hfr htz)
  clear hb hx h2 h3 hn4 hfr htz
  go_enter Try.func34, Try.ntmps34
  go_upto_region 5 with (first
    | (refine wpList_load_row rfl 24 (.tmp 5) rfl (w.heap.size) rfl 24 _ (0, 0) _ P0.out Try.underlying24 rfl (S.i24 _ _ _ _) ?_)
    | (go_at_call 44; (with_reducible refine (valid_any s A n c b o xs (by omega) hc _ (HD.out.later hB0)).mono ?_); rintro e w1 ⟨rfl, hb1⟩; have P1 := Lib.hid (bkBelow P0.out hb1); have J1 := Lib.hid (bkBelow J0.out hb1); have K1 := Lib.hid (bkBelow K0.out hb1); have L1 := Lib.hid (bkBelow L0.out hb1); have M1 := Lib.hid (bkBelow M0.out hb1); have R1 := Lib.hid (bkBelow R0.out hb1); have B1 := bdT hB0 hB0.size hb1; have p1 := (bkCell P1.out 1).trans (show _ = some (Value.slice A n c) from rfl); have j1 := (bkCell J1.out 0).trans (show _ = some (iv fr) from rfl); have k1 := (bkCell K1.out 0).trans (show _ = some (iv tz) from rfl); have l1 := (bkCell L1.out 0).trans (show _ = some (iv fi) from rfl); have m1 := (bkCell M1.out 0).trans (show _ = some (iv la) from rfl);  simp only [hva])
    | (go_at_call 45; (with_reducible refine (in_yes fi 0 10000 _ h5.1 h5.2).mono ?_); rintro e w5 ⟨rfl, rfl⟩)
    | (go_at_call 45; (with_reducible refine (in_yes la 0 10000 _ h6.1 h6.2).mono ?_); rintro e w5 ⟨rfl, rfl⟩))
  have D5 := HD.out.later B1
  have M5 := Lib.hid (mapped_any s A n c b o xs h HBT.out HU.out.2.2.2 64 #[.pointer (some ⟨w.heap.size + 1, 0, none⟩), .pointer (some ⟨w.heap.size + 1 + 1, 0, none⟩), .pointer (some ⟨w.heap.size + 1 + 1 + 1, 0, none⟩), .pointer (some ⟨w.heap.size + 1 + 1 + 1 + 1, 0, none⟩)] (enters_of Try.func64 (by kernel_rfl) rfl) (fG xs fi la f z) w1 D5 (fun W i hW hi => by
    obtain ⟨q1, q2, q3, q4⟩ := HU.out
    have c2 := (bkCell (bkBelow J1.out hW) 0).trans (show _ = some (iv fr) from rfl)
    have c3 := (bkCell (bkBelow K1.out hW) 0).trans (show _ = some (iv tz) from rfl)
    have c4 := (bkCell (bkBelow L1.out hW) 0).trans (show _ = some (iv fi) from rfl)
    have c5 := (bkCell (bkBelow M1.out hW) 0).trans (show _ = some (iv la) from rfl)
    rw [HF.out.1] at c2
    rw [HF.out.2] at c3
    by_cases hin : f ≤ i ∧ i < z
    · rw [show fG xs fi la f z i = fv (xs i) fi la f z i from if_pos hin]
      exact fadefn_in i n f z _ _ _ _ (xs i) fi la W (HX.out i hi) h5 h6 hin.1 hin.2 q2 q3 c2 c3 c4 c5
    · rw [show fG xs fi la f z i = xs i from if_neg hin]
      exact fadefn_out i f z _ _ _ _ (xs i) fi la W (by omega) c2 c3 c4 c5))
  have HR4 := Lib.hid (bkLt R1.out)
  clear D5 p1 j1 k1 l1 m1 d1 d2 d3 h5 h6
  go_wp2_with (first
    | (refine wpList_load_row rfl 24 (.tmp 5) rfl (w.heap.size) rfl 24 _ (0, 0) _ P1.out Try.underlying24 rfl (S.i24 _ _ _ _) ?_)
    | (go_at_call 46; (with_reducible refine M5.out.mono ?_); rintro e w6 ⟨g, rfl, D6, hg6, hb6⟩; have R6 := Lib.hid (bkBelow R1.out hb6); have B6 := bdT B1 B1.size hb6; have ND6 := Lib.hid D6)
    | (refine wpList_store_row rfl 24 (.tmp 10) (.tmp 43) rfl (w.heap.size + 1 + 1 + 1 + 1 + 1) (s.cs (some ⟨g, 0, none⟩) n n) rfl rfl 24 _ R6.out (S.i24 _ _ _ _) (S.sz S.zero s none _ 0 0 _ _) (S.one _ _ _ _) ?_))
  have hR4 := HR4.out
  refine bodyPost_ret (res_ct rfl _ _ (w.heap.size + 1 + 1 + 1 + 1 + 1) 24 _ (0, 0) _ rfl (setRow_heap _ _ _ _ _ _ R6.out) Try.underlying24 rfl (S.i24 _ _ _ _)) rfl ⟨_, _, g, 0, rfl, ND6.out.setRow (fun _ => by omega) _, below_setRow B6 (by omega) _⟩
set_option maxHeartbeats 16000000 in
set_option maxRecDepth 100000 in
theorem rfade_ok (s : S) (A : Option Addr) (n c b o : Nat) (xs : Nat → Int) (w : World) (hA : DataAt w A n b o xs) (hn : (n : Int) ≤ 1000000) (hc : n ≤ c) (fi la : Int) (h : Int) (hb : Bits s.a2 h) (hx : ∀ i, i < n → -h ≤ xs i ∧ xs i ≤ h - 1) (hva : vS s n xs = true) (f z : Nat) (h2 : f ≤ z) (h3 : z ≤ n) (h5 : 0 ≤ fi ∧ fi ≤ 10000) (h6 : 0 ≤ la ∧ la ≤ 10000) (hn4 : (n : Int) ≤ 4096) :
    Calls Try.prog 35 #[.agg (s.cs A n c), iv f, iv z, iv fi, iv la] w fun e w' => ∃ A' c' b o, e = .returned (.tuple #[.agg (s.cs A' n c'), iv 0]) ∧ DataAt w' A' n b o (fun i => clp h (fG xs fi la f z i)) ∧ Below w.heap.size w w' := by
  have hB0 : Below w.heap.size w ((w.alloc (Obj.cells (s.cs A n c) 24)).alloc (Obj.cells #[Value.string ⟨#[]⟩, Value.slice none 0 0, iv 0, iv 0, iv 0, iv 0, iv 0, iv 0, iv 0, iv 0, iv 0, iv 0, iv 0] 24)) := ((Below.refl _ _).alloc (Nat.le_refl _) _).alloc (by simp) _
  have P0 := Lib.hid (heap_alloc2_old w (Obj.cells (s.cs A n c) 24) (Obj.cells #[Value.string ⟨#[]⟩, Value.slice none 0 0, iv 0, iv 0, iv 0, iv 0, iv 0, iv 0, iv 0, iv 0, iv 0, iv 0, iv 0] 24))
  have R0 := Lib.hid (heap_alloc2_new w (Obj.cells (s.cs A n c) 24) (Obj.cells #[Value.string ⟨#[]⟩, Value.slice none 0 0, iv 0, iv 0, iv 0, iv 0, iv 0, iv 0, iv 0, iv 0, iv 0, iv 0, iv 0] 24))
  have HD := Lib.hid hA
  have TD := Lib.hid hA.top
  clear hA
  have l0 : (0 : Int) ≤ (n : Int) := by omega
  have HBD := bits_bd hb
  have HX := Lib.hid (show ∀ j, j < n → -32768 ≤ xs j ∧ xs j ≤ 32768 from fun j hj => by have := hx j hj; omega)
  have HBT := Lib.hid hb
  have HU := Lib.hid (show f ≤ z ∧ z ≤ n ∧ (n : Int) ≤ 4096 ∧ n ≤ 1000000 from ⟨h2, h3, hn4, by omega⟩)
  have t1 : (0 : Int) ≤ (f : Int) := by omega
  have t2 : (f : Int) ≤ (n : Int) := by omega
  have t3 : (f : Int) ≤ (z : Int) := by omega
  have t4 : (z : Int) ≤ (n : Int) := by omega
  clear hb hx h2 h3 hn4
  go_enter Try.func35, Try.ntmps35
  go_upto_region 5 with (first
    | (refine wpList_load_row rfl 24 (.tmp 5) rfl (w.heap.size) rfl 24 _ (0, 0) _ P0.out Try.underlying24 rfl (S.i24 _ _ _ _) ?_)
    | (go_at_call 26; (with_reducible refine (rvalid_any s A n c b o xs (by omega) hc _ (HD.out.later hB0)).mono ?_); rintro e w1 ⟨rfl, hb1⟩; have P1 := Lib.hid (bkBelow P0.out hb1); have R1 := Lib.hid (bkBelow R0.out hb1); have B1 := bdT hB0 hB0.size hb1; have p1 := (bkCell P1.out 1).trans (show _ = some (Value.slice A n c) from rfl);  simp only [hva])
    | (go_at_call 48; (with_reducible refine (rin_yes f 0 n _ t1 t2).mono ?_); rintro e w5 ⟨rfl, rfl⟩)
    | (go_at_call 48; (with_reducible refine (rin_yes z f n _ t3 t4).mono ?_); rintro e w5 ⟨rfl, rfl⟩)
    | (go_at_call 48; (with_reducible refine (rin_yes fi 0 10000 _ h5.1 h5.2).mono ?_); rintro e w5 ⟨rfl, rfl⟩)
    | (go_at_call 48; (with_reducible refine (rin_yes la 0 10000 _ h6.1 h6.2).mono ?_); rintro e w5 ⟨rfl, rfl⟩))
  clear t2 t3 t4
  have CL := Lib.hid (clone_any A n c b o xs HU.out.2.2.2 w1 (HD.out.later B1))
  have HG0 := Lib.hid (And.intro (bkLt P1.out) (bkLt R1.out))
  go_upto_region 7 with (go_at_call 51; (with_reducible refine CL.out.mono ?_); rintro e w2 ⟨v5, rfl, O5, hb2⟩; have P2 := Lib.hid (bkBelow P1.out hb2); have R2 := Lib.hid (bkBelow R1.out hb2); have B2 := bdT B1 B1.size hb2; have O2 := Lib.hid O5)
  clear p1 O5
  go_loopw [13] (fun v wr => ∃ (j : Nat) (F : Nat → Int), f ≤ j ∧ j ≤ z ∧ v = iv j ∧ (∀ i, i < n → F i = if f ≤ i ∧ i < j then fv (xs i) fi la f z i else xs i) ∧ wr.heap[w.heap.size]? = some (.cells (s.cs A n c) 24 (0, 0)) ∧ wr.heap[w.heap.size + 1]? = some (.cells #[Value.string ⟨#[]⟩, Value.slice none 0 0, iv 0, iv 0, iv 0, iv 0, iv 0, iv 0, iv 0, iv 0, iv 0, iv 0, iv 0] 24 (0, 0)) ∧ wr.ownsRow w1.heap.size 3 1 v5 n (rw_ F n) ∧ Below w.heap.size w wr) (fun v _ => z - (intOf v).toNat)
  case atStart => exact ⟨f, xs, by omega, by have := HU.out; omega, rfl, fun i hi => by rw [if_neg (by omega)], P2.out, R2.out, O2.out, B2⟩
  case round =>
    clear P2 R2 O2 B2
    obtain ⟨j, F, hj0, hj, rfl, hF, hP, hR, hO, hB⟩ := hrel
    have NF := Lib.hid hF
    have NP := Lib.hid hP
    have NR := Lib.hid hR
    have l3 : (0 : Int) ≤ (j : Int) := by omega
    have HJ := Lib.hid (And.intro hj0 hj)
    clear hF hP hR hj0
    by_cases hlt : j < z
    · have l4 : (j : Int) < (z : Int) := by omega
      have HK := Lib.hid (show j < n by have := HU.out; omega)
      obtain ⟨g5, cap5, rfl, hg5⟩ := ownPos hO (by have := HK.out; omega)
      have NO := Lib.hid hO
      have HG := Lib.hid hg5
      have tD := TD.out (by have := HK.out; omega)
      subst tD
      have x0 := (HD.out.kept hB (HD.out.low (by have := HK.out; omega))).cell j HK.out
      have l5 : (j : Int) < (n : Int) := by have := HK.out; omega
      obtain ⟨q, hq⟩ : ∃ q, q = fq fi la f z j := ⟨_, rfl⟩
      obtain ⟨f1, f2, f3, f4, f5, f6, f7, f8, f9⟩ := fade_facts (HX.out j HK.out) h5 h6 HJ.out.1 hlt HU.out.2.1 HU.out.2.2.1 q hq
      have FC := Lib.hid (fun W => hq ▸ floordiv_any ((la - fi) * ((j : Int) - f)) ((z : Int) - f) f7.1 f7.2 f8.1 f8.2 W : ∀ W, Calls Try.prog 54 #[iv ((la - fi) * ((j : Int) - f)), iv ((z : Int) - f)] W fun e w' => e = .returned (iv q) ∧ W = w')
      have NC := Lib.hid (fun W => round_any (xs j * (fi + q)) 1000 f9.1 f9.2 (by decide) (by decide) W)
      have HQ := Lib.hid hq
      clear f7 f8 f9 hq hO hg5
      go_upto_region 9 with (fail)
      refine start_ (n := 24) (S := fun w' => w'.heap[w.heap.size]? = some (.cells (s.cs (some ⟨b, o, none⟩) n c) 24 (0, 0)) ∧ w'.cell? ⟨b, o + j, none⟩ = some (iv (xs j)) ∧ w'.heap[w.heap.size + 1]? = some (.cells #[Value.string ⟨#[]⟩, Value.slice none 0 0, iv 0, iv 0, iv 0, iv 0, iv 0, iv 0, iv 0, iv 0, iv 0, iv 0, iv 0] 24 (0, 0)) ∧ w'.ownsRow w1.heap.size 3 1 (.slice (some ⟨g5, 0, none⟩) n cap5) n (rw_ F n) ∧ Below w.heap.size w w') (ds := [23]) #[false, false, false, false, false, false, false, false, false, false, false, false, false, false, false, false, false, false, false, false, false, false, false, false] (by kernel_rfl) rfl rfl ⟨NP.out, x0, NR.out, NO.out.drew, hB.drew⟩ (fun hHeld => ?_)
      refine pure_ (i := 0) (N := some 53) (v := ?_) (a' := ?_) #[true, false, false, false, false, false, false, false, false, false, false, false, false, false, false, false, false, false, false, false, false, false, false, false] rfl rfl (by kernel_rfl) (fun _ _ _ h => h) (Or.inl ⟨by rfl, ?_⟩) ?_ ?_
      rotate_left
      · intro w'
        go_simp
        with_reducible rfl
      rotate_left
      · simp only [Act.put, List.setIfInBounds_toArray, List.set_cons_zero, List.set_cons_succ, i64_w, i32_w, f1, f2, f3, f4, f5, f6]
        rfl
      refine pure_ (i := 1) (N := some 54) (v := ?_) (a' := ?_) #[true, true, false, false, false, false, false, false, false, false, false, false, false, false, false, false, false, false, false, false, false, false, false, false] rfl rfl (by kernel_rfl) (fun _ _ _ h => h) (Or.inl ⟨by rfl, ?_⟩) ?_ ?_
      rotate_left
      · intro w'
        go_simp
        with_reducible rfl
      rotate_left
      · simp only [Act.put, List.setIfInBounds_toArray, List.set_cons_zero, List.set_cons_succ, i64_w, i32_w, f1, f2, f3, f4, f5, f6]
        rfl
      refine pure_ (i := 2) (N := some 55) (v := ?_) (a' := ?_) #[true, true, true, false, false, false, false, false, false, false, false, false, false, false, false, false, false, false, false, false, false, false, false, false] rfl rfl (by kernel_rfl) (fun _ _ _ h => h) (Or.inl ⟨by rfl, ?_⟩) ?_ ?_
      rotate_left
      · intro w'
        go_simp
        with_reducible rfl
      rotate_left
      · simp only [Act.put, List.setIfInBounds_toArray, List.set_cons_zero, List.set_cons_succ, i64_w, i32_w, f1, f2, f3, f4, f5, f6]
        rfl
      refine pure_ (i := 4) (N := some 57) (v := ?_) (a' := ?_) #[true, true, true, false, true, false, false, false, false, false, false, false, false, false, false, false, false, false, false, false, false, false, false, false] rfl rfl (by kernel_rfl) (fun _ _ _ h => h) (Or.inl ⟨by rfl, ?_⟩) ?_ ?_
      rotate_left
      · intro w'
        go_simp
        with_reducible rfl
      rotate_left
      · simp only [Act.put, List.setIfInBounds_toArray, List.set_cons_zero, List.set_cons_succ, i64_w, i32_w, f1, f2, f3, f4, f5, f6]
        rfl
      refine pure_ (i := 7) (N := some 60) (v := ?_) (a' := ?_) #[true, true, true, false, true, false, false, true, false, false, false, false, false, false, false, false, false, false, false, false, false, false, false, false] rfl rfl (by kernel_rfl) (fun _ _ _ h => h) (Or.inl ⟨by rfl, ?_⟩) ?_ ?_
      rotate_left
      · intro w'
        go_simp
        with_reducible rfl
      rotate_left
      · simp only [Act.put, List.setIfInBounds_toArray, List.set_cons_zero, List.set_cons_succ, i64_w, i32_w, f1, f2, f3, f4, f5, f6]
        rfl
      refine pure_ (i := 8) (N := some 61) (v := ?_) (a' := ?_) #[true, true, true, false, true, false, false, true, true, false, false, false, false, false, false, false, false, false, false, false, false, false, false, false] rfl rfl (by kernel_rfl) (fun _ _ _ h => h) (Or.inl ⟨by rfl, ?_⟩) ?_ ?_
      rotate_left
      · intro w'
        go_simp
        with_reducible rfl
      rotate_left
      · simp only [Act.put, List.setIfInBounds_toArray, List.set_cons_zero, List.set_cons_succ, i64_w, i32_w, f1, f2, f3, f4, f5, f6]
        rfl
      refine pure_ (i := 9) (N := some 62) (v := ?_) (a' := ?_) #[true, true, true, false, true, false, false, true, true, true, false, false, false, false, false, false, false, false, false, false, false, false, false, false] rfl rfl (by kernel_rfl) (fun _ _ _ h => h) (Or.inl ⟨by rfl, ?_⟩) ?_ ?_
      rotate_left
      · intro w'
        go_simp
        with_reducible rfl
      rotate_left
      · simp only [Act.put, List.setIfInBounds_toArray, List.set_cons_zero, List.set_cons_succ, i64_w, i32_w, f1, f2, f3, f4, f5, f6]
        rfl
      refine pure_ (i := 10) (N := some 63) (v := ?_) (a' := ?_) #[true, true, true, false, true, false, false, true, true, true, true, false, false, false, false, false, false, false, false, false, false, false, false, false] rfl rfl (by kernel_rfl) (fun _ _ _ h => h) (Or.inl ⟨by rfl, ?_⟩) ?_ ?_
      rotate_left
      · intro w'
        go_simp
        with_reducible rfl
      rotate_left
      · simp only [Act.put, List.setIfInBounds_toArray, List.set_cons_zero, List.set_cons_succ, i64_w, i32_w, f1, f2, f3, f4, f5, f6]
        rfl
      refine pure_ (i := 11) (N := some 64) (v := ?_) (a' := ?_) #[true, true, true, false, true, false, false, true, true, true, true, true, false, false, false, false, false, false, false, false, false, false, false, false] rfl rfl (by kernel_rfl) (fun _ _ _ h => h) (Or.inl ⟨by rfl, ?_⟩) ?_ ?_
      rotate_left
      · intro w'
        go_simp
        with_reducible rfl
      rotate_left
      · simp only [Act.put, List.setIfInBounds_toArray, List.set_cons_zero, List.set_cons_succ, i64_w, i32_w, f1, f2, f3, f4, f5, f6]
        rfl
      refine pure_ (i := 12) (N := some 65) (v := ?_) (a' := ?_) #[true, true, true, false, true, false, false, true, true, true, true, true, true, false, false, false, false, false, false, false, false, false, false, false] rfl rfl (by kernel_rfl) (fun _ _ _ h => h) (Or.inl ⟨by rfl, ?_⟩) ?_ ?_
      rotate_left
      · intro w'
        go_simp
        with_reducible rfl
      rotate_left
      · simp only [Act.put, List.setIfInBounds_toArray, List.set_cons_zero, List.set_cons_succ, i64_w, i32_w, f1, f2, f3, f4, f5, f6]
        rfl
      refine pure_ (i := 13) (N := some 66) (v := ?_) (a' := ?_) #[true, true, true, false, true, false, false, true, true, true, true, true, true, true, false, false, false, false, false, false, false, false, false, false] rfl rfl (by kernel_rfl) (fun _ _ _ h => h) (Or.inl ⟨by rfl, ?_⟩) ?_ ?_
      rotate_left
      · intro w'
        go_simp
        with_reducible rfl
      rotate_left
      · simp only [Act.put, List.setIfInBounds_toArray, List.set_cons_zero, List.set_cons_succ, i64_w, i32_w, f1, f2, f3, f4, f5, f6]
        rfl
      refine pure_ (i := 14) (N := some 67) (v := ?_) (a' := ?_) #[true, true, true, false, true, false, false, true, true, true, true, true, true, true, true, false, false, false, false, false, false, false, false, false] rfl rfl (by kernel_rfl) (fun _ _ _ h => h) (Or.inl ⟨by rfl, ?_⟩) ?_ ?_
      rotate_left
      · intro w'
        go_simp
        with_reducible rfl
      rotate_left
      · simp only [Act.put, List.setIfInBounds_toArray, List.set_cons_zero, List.set_cons_succ, i64_w, i32_w, f1, f2, f3, f4, f5, f6]
        rfl
      refine pure_ (i := 15) (N := some 68) (v := ?_) (a' := ?_) #[true, true, true, false, true, false, false, true, true, true, true, true, true, true, true, true, false, false, false, false, false, false, false, false] rfl rfl (by kernel_rfl) (fun _ _ _ h => h) (Or.inl ⟨by rfl, ?_⟩) ?_ ?_
      rotate_left
      · intro w'
        go_simp
        with_reducible rfl
      rotate_left
      · simp only [Act.put, List.setIfInBounds_toArray, List.set_cons_zero, List.set_cons_succ, i64_w, i32_w, f1, f2, f3, f4, f5, f6]
        rfl
      refine pure_ (i := 16) (N := some 69) (v := ?_) (a' := ?_) #[true, true, true, false, true, false, false, true, true, true, true, true, true, true, true, true, true, false, false, false, false, false, false, false] rfl rfl (by kernel_rfl) (fun _ _ _ h => h) (Or.inl ⟨by rfl, ?_⟩) ?_ ?_
      rotate_left
      · intro w'
        go_simp
        with_reducible rfl
      rotate_left
      · simp only [Act.put, List.setIfInBounds_toArray, List.set_cons_zero, List.set_cons_succ, i64_w, i32_w, f1, f2, f3, f4, f5, f6]
        rfl
      refine pure_ (i := 17) (N := some 70) (v := ?_) (a' := ?_) #[true, true, true, false, true, false, false, true, true, true, true, true, true, true, true, true, true, true, false, false, false, false, false, false] rfl rfl (by kernel_rfl) (fun _ _ _ h => h) (Or.inl ⟨by rfl, ?_⟩) ?_ ?_
      rotate_left
      · intro w'
        go_simp
        with_reducible rfl
      rotate_left
      · simp only [Act.put, List.setIfInBounds_toArray, List.set_cons_zero, List.set_cons_succ, i64_w, i32_w, f1, f2, f3, f4, f5, f6]
        rfl
      refine take_ (i := 3) (N := some 56) (v := ?_) (a' := ?_) #[true, true, true, true, true, false, false, true, true, true, true, true, true, true, true, true, true, true, false, false, false, false, false, false] rfl rfl (by kernel_rfl) (fun _ _ _ h => h) (Or.inl ⟨by rfl, ?_⟩) hHeld ?_ ?_
      rotate_left
      · rintro w' ⟨s0, s1, s2, s3, s4⟩
        have q1 := (bkCell s0 1).trans (show _ = some (Value.slice (some ⟨b, o, none⟩) n c) from rfl)
        clear s0 s1 s2 s3 s4
        go_simp
        with_reducible rfl
      rotate_left
      · simp only [Act.put, List.setIfInBounds_toArray, List.set_cons_zero, List.set_cons_succ, i64_w, i32_w, f1, f2, f3, f4, f5, f6]
        rfl
      refine pure_ (i := 5) (N := some 58) (v := ?_) (a' := ?_) #[true, true, true, true, true, true, false, true, true, true, true, true, true, true, true, true, true, true, false, false, false, false, false, false] rfl rfl (by kernel_rfl) (fun _ _ _ h => h) (Or.inl ⟨by rfl, ?_⟩) ?_ ?_
      rotate_left
      · intro w'
        go_simp
        with_reducible rfl
      rotate_left
      · simp only [Act.put, List.setIfInBounds_toArray, List.set_cons_zero, List.set_cons_succ, i64_w, i32_w, f1, f2, f3, f4, f5, f6]
        rfl
      refine take_ (i := 6) (N := some 59) (v := ?_) (a' := ?_) #[true, true, true, true, true, true, true, true, true, true, true, true, true, true, true, true, true, true, false, false, false, false, false, false] rfl rfl (by kernel_rfl) (fun _ _ _ h => h) (Or.inl ⟨by rfl, ?_⟩) hHeld ?_ ?_
      rotate_left
      · rintro w' ⟨s0, s1, s2, s3, s4⟩
        clear s0 s2 s3 s4
        go_simp
        with_reducible rfl
      rotate_left
      · simp only [Act.put, List.setIfInBounds_toArray, List.set_cons_zero, List.set_cons_succ, i64_w, i32_w, f1, f2, f3, f4, f5, f6]
        rfl
      refine one_ (i := 18) (N := some 71) #[true, true, true, true, true, true, true, true, true, true, true, true, true, true, true, true, true, true, true, false, false, false, false, false] rfl rfl (by kernel_rfl) (by decide) (fun K hK => ?_)
      obtain ⟨s0, s1, s2, s3, s4⟩ := hHeld
      refine goes_ Try.func54 (by kernel_rfl) rfl #[iv ((la - fi) * ((j : Int) - f)), iv ((z : Int) - f)] (by rfl) rfl rfl (by simp only [List.map_toArray, List.map_cons, List.map_nil]; rfl) ?_
      with_reducible refine (FC.out _).mono ?_
      rintro e w4 ⟨rfl, rfl⟩
      refine ⟨_, rfl, ?_⟩
      refine hK.out _ _ ⟨s0, s1, s2, s3, s4⟩ (fun hHeld => ?_)
      clear hK K
      refine norm_ (a' := ?_) ?_ ?_
      rotate_left
      · show Act.put _ (some 71) _ = _
        simp only [Act.put, List.setIfInBounds_toArray, List.set_cons_zero, List.set_cons_succ, i64_w, i32_w, f1, f2, f3, f4, f5, f6]
        rfl
      refine pure_ (i := 19) (N := some 72) (v := ?_) (a' := ?_) #[true, true, true, true, true, true, true, true, true, true, true, true, true, true, true, true, true, true, true, true, false, false, false, false] rfl rfl (by kernel_rfl) (fun _ _ _ h => h) (Or.inl ⟨by rfl, ?_⟩) ?_ ?_
      rotate_left
      · intro w'
        go_simp
        with_reducible rfl
      rotate_left
      · simp only [Act.put, List.setIfInBounds_toArray, List.set_cons_zero, List.set_cons_succ, i64_w, i32_w, f1, f2, f3, f4, f5, f6]
        rfl
      refine pure_ (i := 20) (N := some 73) (v := ?_) (a' := ?_) #[true, true, true, true, true, true, true, true, true, true, true, true, true, true, true, true, true, true, true, true, true, false, false, false] rfl rfl (by kernel_rfl) (fun _ _ _ h => h) (Or.inl ⟨by rfl, ?_⟩) ?_ ?_
      rotate_left
      · intro w'
        go_simp
        with_reducible rfl
      rotate_left
      · simp only [Act.put, List.setIfInBounds_toArray, List.set_cons_zero, List.set_cons_succ, i64_w, i32_w, f1, f2, f3, f4, f5, f6]
        rfl
      refine one_ (i := 21) (N := some 74) #[true, true, true, true, true, true, true, true, true, true, true, true, true, true, true, true, true, true, true, true, true, true, false, false] rfl rfl (by kernel_rfl) (by decide) (fun K hK => ?_)
      obtain ⟨s0, s1, s2, s3, s4⟩ := hHeld
      refine goes_ Try.func66 (by kernel_rfl) rfl #[iv (xs j * (fi + q)), iv 1000] (by rfl) rfl rfl (by simp only [List.map_toArray, List.map_cons, List.map_nil]; rfl) ?_
      with_reducible refine (NC.out _).mono ?_
      rintro e w4 ⟨rfl, rfl⟩
      refine ⟨_, rfl, ?_⟩
      refine hK.out _ _ ⟨s0, s1, s2, s3, s4⟩ (fun hHeld => ?_)
      clear hK K
      refine norm_ (a' := ?_) ?_ ?_
      rotate_left
      · show Act.put _ (some 74) _ = _
        simp only [Act.put, List.setIfInBounds_toArray, List.set_cons_zero, List.set_cons_succ, i64_w, i32_w, f1, f2, f3, f4, f5, f6]
        rfl
      refine pure_ (i := 22) (N := some 75) (v := ?_) (a' := ?_) #[true, true, true, true, true, true, true, true, true, true, true, true, true, true, true, true, true, true, true, true, true, true, true, false] rfl rfl (by kernel_rfl) (fun _ _ _ h => h) (Or.inl ⟨by rfl, ?_⟩) ?_ ?_
      rotate_left
      · intro w'
        go_simp
        with_reducible rfl
      rotate_left
      · simp only [Act.put, List.setIfInBounds_toArray, List.set_cons_zero, List.set_cons_succ, i64_w, i32_w, f1, f2, f3, f4, f5, f6]
        rfl
      refine last_ (i := 23) (N := none) #[true, true, true, true, true, true, true, true, true, true, true, true, true, true, true, true, true, true, true, true, true, true, true, true] rfl rfl (by kernel_rfl) (by decide) (fun K hK => ?_)
      obtain ⟨P9, -, R9, O9, B9⟩ := hHeld
      have s9 := (O9.cellAt j (by have := HK.out; omega)).trans (rw_at F n j HK.out)
      have z9 := O9.frozenAt j
      have N9 := Lib.hid (And.intro P9 (And.intro R9 (And.intro O9 B9)))
      clear P9 R9 O9 B9
      refine skip_ (w1 := ?_) (by rfl) rfl ?_ ?_
      rotate_left
      · go_simp
        rfl
      refine hK.out _ _ ?_
      clear hK K
      refine done_ (by kernel_rfl) ?_
      clear f1 f2 f3 f4 f5 f6 x0
      have w3n := wrap_succ2 hlt (Nat.le_refl z) HU.out.2.1 HU.out.2.2.1
      go_wp2
      try simp only [w3n]
      clear w3n
      obtain ⟨P9, R9, O9, B9⟩ := N9.out
      have hg5 := HG.out
      have hG0 := HG0.out
      have hJ := HJ.out
      have hw1 := B1.size
      have hK := HK.out
      refine ⟨⟨j + 1, fun i => if i = j then nr (xs j * (fi + q)) 1000 else F i, by omega, by omega, by go_num, fun i hi => ?_, bkFar P9 (by simp; omega) _, bkFar R9 (by simp; omega) _, ownN (O9.stored j _).1 (rw_set F n j _), B9.setCell (by simp; omega) _⟩, by simp [intOf]; omega⟩
      by_cases e : i = j
      · subst e
        simp only [if_true]
        rw [if_pos (by omega)]
        unfold fv
        rw [HQ.out]
      · simp only [e, if_false]
        rw [NF.out i hi]
        by_cases e2 : f ≤ i ∧ i < j
        · rw [if_pos e2, if_pos (by omega)]
        · rw [if_neg e2, if_neg (by omega)]
    · have hjz : z = j := by omega
      subst hjz
      obtain ⟨A5, c5, g5, rfl, D5, -⟩ := ownDataV hO
      have M5 := Lib.hid (made_any s A n c A5 n c5 g5 0 F h HBT.out HU.out.2.2.2 wr D5)
      clear D5 hO
      go_wp2_with (first
        | (refine wpList_load_row rfl 24 (.tmp 5) rfl (w.heap.size) rfl 24 _ (0, 0) _ NP.out Try.underlying24 rfl (S.i24 _ _ _ _) ?_)
        | (go_at_call 49; (with_reducible refine M5.out.mono ?_); rintro e w6 ⟨g, rfl, D6, hg6, hb6⟩; have R6 := Lib.hid (bkBelow NR.out hb6); have B6 := bdT hB hB.size hb6; have ND6 := Lib.hid D6)
        | (refine wpList_store_row rfl 24 (.tmp 10) (.tmp 78) rfl (w.heap.size + 1) (s.cs (some ⟨g, 0, none⟩) n n) rfl rfl 24 _ R6.out (S.i24 _ _ _ _) (S.sz S.zero s none _ 0 0 _ _) (S.one _ _ _ _) ?_))
      have hR4 := bkLt NR.out
      refine bodyPost_ret (res_ct rfl _ _ (w.heap.size + 1) 24 _ (0, 0) _ rfl (setRow_heap _ _ _ _ _ _ R6.out) Try.underlying24 rfl (S.i24 _ _ _ _)) rfl ⟨_, _, g, 0, rfl, (ND6.out.setRow (fun _ => by omega) _).congr fun i hi => ?_, below_setRow B6 (by omega) _⟩
      rw [NF.out i hi]
      rfl
end Go.Proofs.Ytejnhhjldddbdaa.TX

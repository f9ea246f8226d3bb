/- TuneLouder: where sounds begin by a greater ratio, they begin by a smaller one, too: the law, walked. -/
import Derived.Test.YtfodpoccjdaaaaaReE
import Derived.Test.YtfodpoccjdaaaaaReR
namespace Go.Proofs.Ytfodpoccjdaaaaa.SX
open Go.RowKit Go.Proofs.YtfodpoccjdaaaaaW.PrintLast Go.Proofs.Ytfodpoccjdaaaaa.TX
set_option linter.unusedVariables false
set_option linter.unusedSimpArgs false
set_option maxHeartbeats 4000000 in
set_option maxRecDepth 100000 in
theorem index_any (A : Option Addr) (n c b o : Nat) (xs : Nat → Int) (y : Int) (hn : n ≤ 5000) (w : World) (hA : DataAt w A n b o xs) :
    Calls Try.prog 100 #[.slice A n c, iv y] w fun e w' => (∃ r : Int, e = .returned (iv r) ∧ (0 ≤ r ↔ ∃ i, i < n ∧ y = xs i)) ∧ w = w' := by
  have HA := Lib.hid hA
  have TA := Lib.hid hA.top
  clear hA
  have l0 : (0 : Int) ≤ (n : Int) := by omega
  go_enter Try.func100, Try.ntmps100
  go_wp2
  go_loop [8] (fun v => ∃ k : Nat, k ≤ n ∧ v = iv k ∧ Hid (∀ i, i < k → ¬ (y = xs i))) (fun v => n - (intOf v).toNat)
  case atStart => exact ⟨0, by omega, rfl, Lib.hid (fun i h => by omega)⟩
  case round =>
    obtain ⟨k, hk, rfl, HN⟩ := hrel
    by_cases hlt : k < n
    · have tA := TA.out (by omega)
      subst tA
      have ha := HA.out.cell k hlt
      have h0 : (0 : Int) ≤ (k : Int) := by omega
      have h1 : (k : Int) < (n : Int) := by omega
      by_cases c1 : y = xs k
      · have HX := Lib.hid c1
        have e1 : (y == xs k) = true := by simp [HX.out]
        clear c1
        go_wp2
        go_ret
        exact ⟨⟨(k : Int), rfl, ⟨fun _ => ⟨k, hlt, HX.out⟩, fun _ => by omega⟩⟩, rfl⟩
      · have HX := Lib.hid c1
        have e1 : (y == xs k) = false := by simp [HX.out]
        clear c1
        go_wp2
        go_round
        case rel => exact ⟨k + 1, by omega, by go_num, Lib.hid (fun i hi => by by_cases e : i = k; (subst e; exact HX.out); exact HN.out i (by omega))⟩
        case measure => simp [intOf]; omega
    · have h1 : decide ((k : Int) < (n : Int)) = false := decide_eq_false (by omega)
      obtain rfl : n = k := by omega
      go_wp2
      go_ret
      exact ⟨⟨-1, rfl, ⟨fun h => absurd h (by decide), fun ⟨i, hi, h⟩ => absurd h (HN.out i hi)⟩⟩, rfl⟩
theorem nz_any (x : Int) (w : World) : Calls Try.prog 40 #[iv x] w fun e w' => e = .returned (.bool (x != 0)) ∧ w = w' := by
  go_enter Try.func40, Try.ntmps40
  go_wp2
  go_ret
  exact ⟨rfl, rfl⟩
set_option maxHeartbeats 4000000 in
set_option maxRecDepth 100000 in
theorem indexNZ_any (A : Option Addr) (n c b o : Nat) (xs : Nat → Int)  (hn : n ≤ 5000) (w : World) (hA : DataAt w A n b o xs) :
    Calls Try.prog 101 #[.slice A n c, .func (.func 40) #[] #[]] w fun e w' => (∃ r : Int, e = .returned (iv r) ∧ (0 ≤ r ↔ ∃ i, i < n ∧ xs i ≠ 0)) ∧ w = w' := by
  have HA := Lib.hid hA
  have TA := Lib.hid hA.top
  clear hA
  have l0 : (0 : Int) ≤ (n : Int) := by omega
  have KC := Lib.hid fun (W : World) (x : Int) => nz_any x W
  go_enter Try.func101, Try.ntmps101
  go_wp2
  go_loop [8] (fun v => ∃ k : Nat, k ≤ n ∧ v = iv k ∧ Hid (∀ i, i < k → ¬ (xs i ≠ 0))) (fun v => n - (intOf v).toNat)
  case atStart => exact ⟨0, by omega, rfl, Lib.hid (fun i h => by omega)⟩
  case round =>
    obtain ⟨k, hk, rfl, HN⟩ := hrel
    by_cases hlt : k < n
    · have tA := TA.out (by omega)
      subst tA
      have ha := HA.out.cell k hlt
      have h0 : (0 : Int) ≤ (k : Int) := by omega
      have h1 : (k : Int) < (n : Int) := by omega
      by_cases c1 : xs k ≠ 0
      · have HX := Lib.hid c1
        have e1 : (xs k != 0) = true := by simp [HX.out]
        clear c1
        go_wp2_with (go_at_call 40; (with_reducible refine (KC.out _ _).mono ?_); rintro e w2 ⟨rfl, rfl⟩)
        go_ret
        exact ⟨⟨(k : Int), rfl, ⟨fun _ => ⟨k, hlt, HX.out⟩, fun _ => by omega⟩⟩, rfl⟩
      · have HX := Lib.hid c1
        have e1 : (xs k != 0) = false := by have := Classical.not_not.1 HX.out; simp [this]
        clear c1
        go_wp2_with (go_at_call 40; (with_reducible refine (KC.out _ _).mono ?_); rintro e w2 ⟨rfl, rfl⟩)
        go_round
        case rel => exact ⟨k + 1, by omega, by go_num, Lib.hid (fun i hi => by by_cases e : i = k; (subst e; exact HX.out); exact HN.out i (by omega))⟩
        case measure => simp [intOf]; omega
    · have h1 : decide ((k : Int) < (n : Int)) = false := decide_eq_false (by omega)
      obtain rfl : n = k := by omega
      go_wp2
      go_ret
      exact ⟨⟨-1, rfl, ⟨fun h => absurd h (by decide), fun ⟨i, hi, h⟩ => absurd h (HN.out i hi)⟩⟩, rfl⟩
set_option maxHeartbeats 4000000 in
set_option maxRecDepth 100000 in
theorem contains_any (A : Option Addr) (n c b o : Nat) (xs : Nat → Int) (y : Int) (r : Bool) (hr : r = true ↔ ∃ i, i < n ∧ y = xs i) (hn : n ≤ 5000) (w : World) (hA : DataAt w A n b o xs) :
    Calls Try.prog 38 #[.slice A n c, iv y] w fun e w' => e = .returned (.bool r) ∧ w = w' := by
  have IC := Lib.hid (index_any A n c b o xs y hn w hA)
  have HR := Lib.hid hr
  clear hr hA
  go_enter Try.func38, Try.ntmps38
  go_upto_region 1 with (fail)
  cases r
  · go_wp2_with (go_at_call 100; (with_reducible refine IC.out.mono ?_); rintro e w2 ⟨⟨q, rfl, hq⟩, rfl⟩; have d1 : decide (0 ≤ q) = false := decide_eq_false (fun h => by have := HR.out.2 (hq.1 h); simp at this); clear hq)
    go_ret
    exact ⟨rfl, rfl⟩
  · go_wp2_with (go_at_call 100; (with_reducible refine IC.out.mono ?_); rintro e w2 ⟨⟨q, rfl, hq⟩, rfl⟩; have d1 : decide (0 ≤ q) = true := decide_eq_true (hq.2 (HR.out.1 rfl)); clear hq)
    go_ret
    exact ⟨rfl, rfl⟩
set_option maxHeartbeats 4000000 in
set_option maxRecDepth 100000 in
theorem containsNZ_any (A : Option Addr) (n c b o : Nat) (xs : Nat → Int)  (r : Bool) (hr : r = true ↔ ∃ i, i < n ∧ xs i ≠ 0) (hn : n ≤ 5000) (w : World) (hA : DataAt w A n b o xs) :
    Calls Try.prog 39 #[.slice A n c, .func (.func 40) #[] #[]] w fun e w' => e = .returned (.bool r) ∧ w = w' := by
  have IC := Lib.hid (indexNZ_any A n c b o xs hn w hA)
  have HR := Lib.hid hr
  clear hr hA
  go_enter Try.func39, Try.ntmps39
  go_upto_region 1 with (fail)
  cases r
  · go_wp2_with (go_at_call 101; (with_reducible refine IC.out.mono ?_); rintro e w2 ⟨⟨q, rfl, hq⟩, rfl⟩; have d1 : decide (0 ≤ q) = false := decide_eq_false (fun h => by have := HR.out.2 (hq.1 h); simp at this); clear hq)
    go_ret
    exact ⟨rfl, rfl⟩
  · go_wp2_with (go_at_call 101; (with_reducible refine IC.out.mono ?_); rintro e w2 ⟨⟨q, rfl, hq⟩, rfl⟩; have d1 : decide (0 ≤ q) = true := decide_eq_true (hq.2 (HR.out.1 rfl)); clear hq)
    go_ret
    exact ⟨rfl, rfl⟩
def tl : Nat → Code → Code
  | k, .seq (.region n a d) b => if n == k then b else tl k b
  | k, .seq _ b => tl k b
  | _, c => c
noncomputable def bd : Code := Try.f5.body.getD .skip
set_option maxHeartbeats 16000000 in
set_option maxRecDepth 100000 in
theorem lou_wild (s : S) (A : Option Addr) (n c b o : Nat) (xs : Nat → Int) (x lo hi : Int) (g : Nat) (u0 u2 u4 u5 u6 u9 u10 u11 u12 u13 u14 u15 u16 u17 u18 u19 u20 u21 u22 u23 u24 u25 u26 u27 u28 u29 u30 u31 u32 u33 u34 u35 u36 u37 u38 u39 u40 u41 u42 u43 u44 u45 u46 u47 u48 u49 u50 u51 u52 u53 u54 u55 u56 u57 u58 u59 u60 u61 u62 u63 u64 u65 u66 u67 u68 u69 u70 u71 u72 u73 u74 u75 u76 u77 u78 u79 u80 u81 u82 u83 u84 u85 u86 u87 u88 u89 u90 u91 u92 u93 u94 u95 u96 u97 u98 u99 u100 u101 u102 u103 u104 u105 u106 u107 u108 u109 u110 : Value) (h1 : decide (n ≤ 5000 ∧ s.nm.size ≤ 100) = false) (hn : n ≤ 9223372036854775807) (hc : n ≤ c) (w00 w : World) (B0 : Below w00.heap.size w00 w) (p_0 : w.heap[g]? = some (.cells (s.cs A n c) 31 (0, 0))) (hA : DataAt w A n b o xs) : (tl 1 bd).wp Try.prog (bodyPost Try.prog Try.f5 (fun e w' => e = .returned (.bool true) ∧ Below w00.heap.size w00 w')) ⟨#[u0, iv x, u2, .pointer (some ⟨g, 0, none⟩), u4, u5, u6, iv lo, iv hi, u9, u10, u11, u12, u13, u14, u15, u16, u17, u18, u19, u20, u21, u22, u23, u24, u25, u26, u27, u28, u29, u30, u31, u32, u33, u34, u35, u36, u37, u38, u39, u40, u41, u42, u43, u44, u45, u46, u47, u48, u49, u50, u51, u52, u53, u54, u55, u56, u57, u58, u59, u60, u61, u62, u63, u64, u65, u66, u67, u68, u69, u70, u71, u72, u73, u74, u75, u76, u77, u78, u79, u80, u81, u82, u83, u84, u85, u86, u87, u88, u89, u90, u91, u92, u93, u94, u95, u96, u97, u98, u99, u100, u101, u102, u103, u104, u105, u106, u107, u108, u109, u110], []⟩ w := by
  have P0 := Lib.hid p_0
  have D0 := Lib.hid hA
  have T1 := Lib.hid fun (W : World) => tame_any s A n c W
  clear p_0
  rw [h1] at T1
  clear h1 hA
  conv => arg 2; whnf
  go_wp2_with (first
    | (refine wpList_load_row rfl 31 (.tmp 3) rfl g rfl 31 _ (0, 0) _ P0.out Try.underlying31 rfl (S.i24 _ _ _ _) ?_)
    | (go_at_call 32; (with_reducible refine (T1.out _).mono ?_); rintro e w1 ⟨rfl, hb1⟩; have P1 := Lib.hid (bkBelow P0.out hb1); have D1 := Lib.hid (D0.out.later hb1); have B1 := bdT B0 B0.size hb1; clear P0 D0))
  go_ret
  exact ⟨rfl, B1⟩
set_option maxHeartbeats 16000000 in
set_option maxRecDepth 100000 in
theorem lou_bad (s : S) (A : Option Addr) (n c b o : Nat) (xs : Nat → Int) (x lo hi : Int) (g : Nat) (u0 u2 u4 u5 u6 u9 u10 u11 u12 u13 u14 u15 u16 u17 u18 u19 u20 u21 u22 u23 u24 u25 u26 u27 u28 u29 u30 u31 u32 u33 u34 u35 u36 u37 u38 u39 u40 u41 u42 u43 u44 u45 u46 u47 u48 u49 u50 u51 u52 u53 u54 u55 u56 u57 u58 u59 u60 u61 u62 u63 u64 u65 u66 u67 u68 u69 u70 u71 u72 u73 u74 u75 u76 u77 u78 u79 u80 u81 u82 u83 u84 u85 u86 u87 u88 u89 u90 u91 u92 u93 u94 u95 u96 u97 u98 u99 u100 u101 u102 u103 u104 u105 u106 u107 u108 u109 u110 : Value) (h1 : decide (n ≤ 5000 ∧ s.nm.size ≤ 100) = true) (hv : vS s n xs = false) (hn : n ≤ 9223372036854775807) (hc : n ≤ c) (w00 w : World) (B0 : Below w00.heap.size w00 w) (p_0 : w.heap[g]? = some (.cells (s.cs A n c) 31 (0, 0))) (hA : DataAt w A n b o xs) : (tl 1 bd).wp Try.prog (bodyPost Try.prog Try.f5 (fun e w' => e = .returned (.bool true) ∧ Below w00.heap.size w00 w')) ⟨#[u0, iv x, u2, .pointer (some ⟨g, 0, none⟩), u4, u5, u6, iv lo, iv hi, u9, u10, u11, u12, u13, u14, u15, u16, u17, u18, u19, u20, u21, u22, u23, u24, u25, u26, u27, u28, u29, u30, u31, u32, u33, u34, u35, u36, u37, u38, u39, u40, u41, u42, u43, u44, u45, u46, u47, u48, u49, u50, u51, u52, u53, u54, u55, u56, u57, u58, u59, u60, u61, u62, u63, u64, u65, u66, u67, u68, u69, u70, u71, u72, u73, u74, u75, u76, u77, u78, u79, u80, u81, u82, u83, u84, u85, u86, u87, u88, u89, u90, u91, u92, u93, u94, u95, u96, u97, u98, u99, u100, u101, u102, u103, u104, u105, u106, u107, u108, u109, u110], []⟩ w := by
  have P0 := Lib.hid p_0
  have D0 := Lib.hid hA
  have T1 := Lib.hid fun (W : World) => tame_any s A n c W
  clear p_0
  have VC := Lib.hid fun (W : World) (h : DataAt W A n b o xs) => rvalid_any s A n c b o xs hn hc W h
  rw [h1] at T1
  rw [hv] at VC
  clear h1 hv hA 
  conv => arg 2; whnf
  go_wp2_with (first
    | (refine wpList_load_row rfl 31 (.tmp 3) rfl g rfl 31 _ (0, 0) _ P0.out Try.underlying31 rfl (S.i24 _ _ _ _) ?_)
    | (go_at_call 32; (with_reducible refine (T1.out _).mono ?_); rintro e w1 ⟨rfl, hb1⟩; have P1 := Lib.hid (bkBelow P0.out hb1); have D1 := Lib.hid (D0.out.later hb1); have B1 := bdT B0 B0.size hb1; clear P0 D0)
    | (refine gdOn (by rfl) ?_; refine wpList_load_row rfl 31 (.tmp 3) rfl g rfl 31 _ (0, 0) _ P1.out Try.underlying31 rfl (S.i24 _ _ _ _) ?_)
    | (go_at_call 33; (with_reducible refine (VC.out _ D1.out).mono ?_); rintro e w2 ⟨rfl, hb2⟩; have P2 := Lib.hid (bkBelow P1.out hb2); have D2 := Lib.hid (D1.out.later hb2); have B2 := bdT B1 B1.size hb2; clear P1 D1))
  go_ret
  exact ⟨rfl, B2⟩
set_option maxHeartbeats 16000000 in
set_option maxRecDepth 100000 in
theorem lou_r0 (s : S) (A : Option Addr) (n c b o : Nat) (xs : Nat → Int) (x lo hi : Int) (g : Nat) (u0 u2 u4 u5 u6 u9 u10 u11 u12 u13 u14 u15 u16 u17 u18 u19 u20 u21 u22 u23 u24 u25 u26 u27 u28 u29 u30 u31 u32 u33 u34 u35 u36 u37 u38 u39 u40 u41 u42 u43 u44 u45 u46 u47 u48 u49 u50 u51 u52 u53 u54 u55 u56 u57 u58 u59 u60 u61 u62 u63 u64 u65 u66 u67 u68 u69 u70 u71 u72 u73 u74 u75 u76 u77 u78 u79 u80 u81 u82 u83 u84 u85 u86 u87 u88 u89 u90 u91 u92 u93 u94 u95 u96 u97 u98 u99 u100 u101 u102 u103 u104 u105 u106 u107 u108 u109 u110 : Value) (h1 : decide (n ≤ 5000 ∧ s.nm.size ≤ 100) = true) (hv : vS s n xs = true) (k1 : x < 1) (hn : n ≤ 9223372036854775807) (hc : n ≤ c) (w00 w : World) (B0 : Below w00.heap.size w00 w) (p_0 : w.heap[g]? = some (.cells (s.cs A n c) 31 (0, 0))) (hA : DataAt w A n b o xs) : (tl 1 bd).wp Try.prog (bodyPost Try.prog Try.f5 (fun e w' => e = .returned (.bool true) ∧ Below w00.heap.size w00 w')) ⟨#[u0, iv x, u2, .pointer (some ⟨g, 0, none⟩), u4, u5, u6, iv lo, iv hi, u9, u10, u11, u12, u13, u14, u15, u16, u17, u18, u19, u20, u21, u22, u23, u24, u25, u26, u27, u28, u29, u30, u31, u32, u33, u34, u35, u36, u37, u38, u39, u40, u41, u42, u43, u44, u45, u46, u47, u48, u49, u50, u51, u52, u53, u54, u55, u56, u57, u58, u59, u60, u61, u62, u63, u64, u65, u66, u67, u68, u69, u70, u71, u72, u73, u74, u75, u76, u77, u78, u79, u80, u81, u82, u83, u84, u85, u86, u87, u88, u89, u90, u91, u92, u93, u94, u95, u96, u97, u98, u99, u100, u101, u102, u103, u104, u105, u106, u107, u108, u109, u110], []⟩ w := by
  have P0 := Lib.hid p_0
  have D0 := Lib.hid hA
  have T1 := Lib.hid fun (W : World) => tame_any s A n c W
  clear p_0
  have VC := Lib.hid fun (W : World) (h : DataAt W A n b o xs) => rvalid_any s A n c b o xs hn hc W h
  rw [h1] at T1
  rw [hv] at VC
  have d1 : decide (x < 1) = true := decide_eq_true (by omega)
  clear h1 hv hA k1
  conv => arg 2; whnf
  go_wp2_with (first
    | (refine wpList_load_row rfl 31 (.tmp 3) rfl g rfl 31 _ (0, 0) _ P0.out Try.underlying31 rfl (S.i24 _ _ _ _) ?_)
    | (go_at_call 32; (with_reducible refine (T1.out _).mono ?_); rintro e w1 ⟨rfl, hb1⟩; have P1 := Lib.hid (bkBelow P0.out hb1); have D1 := Lib.hid (D0.out.later hb1); have B1 := bdT B0 B0.size hb1; clear P0 D0)
    | (refine gdOn (by rfl) ?_; refine wpList_load_row rfl 31 (.tmp 3) rfl g rfl 31 _ (0, 0) _ P1.out Try.underlying31 rfl (S.i24 _ _ _ _) ?_)
    | (go_at_call 33; (with_reducible refine (VC.out _ D1.out).mono ?_); rintro e w2 ⟨rfl, hb2⟩; have P2 := Lib.hid (bkBelow P1.out hb2); have D2 := Lib.hid (D1.out.later hb2); have B2 := bdT B1 B1.size hb2; clear P1 D1))
  go_ret
  exact ⟨rfl, B2⟩
set_option maxHeartbeats 16000000 in
set_option maxRecDepth 100000 in
theorem lou_r1 (s : S) (A : Option Addr) (n c b o : Nat) (xs : Nat → Int) (x lo hi : Int) (g : Nat) (u0 u2 u4 u5 u6 u9 u10 u11 u12 u13 u14 u15 u16 u17 u18 u19 u20 u21 u22 u23 u24 u25 u26 u27 u28 u29 u30 u31 u32 u33 u34 u35 u36 u37 u38 u39 u40 u41 u42 u43 u44 u45 u46 u47 u48 u49 u50 u51 u52 u53 u54 u55 u56 u57 u58 u59 u60 u61 u62 u63 u64 u65 u66 u67 u68 u69 u70 u71 u72 u73 u74 u75 u76 u77 u78 u79 u80 u81 u82 u83 u84 u85 u86 u87 u88 u89 u90 u91 u92 u93 u94 u95 u96 u97 u98 u99 u100 u101 u102 u103 u104 u105 u106 u107 u108 u109 u110 : Value) (h1 : decide (n ≤ 5000 ∧ s.nm.size ≤ 100) = true) (hv : vS s n xs = true) (k1 : 1 ≤ x) (k2 : 256 < x) (hn : n ≤ 9223372036854775807) (hc : n ≤ c) (w00 w : World) (B0 : Below w00.heap.size w00 w) (p_0 : w.heap[g]? = some (.cells (s.cs A n c) 31 (0, 0))) (hA : DataAt w A n b o xs) : (tl 1 bd).wp Try.prog (bodyPost Try.prog Try.f5 (fun e w' => e = .returned (.bool true) ∧ Below w00.heap.size w00 w')) ⟨#[u0, iv x, u2, .pointer (some ⟨g, 0, none⟩), u4, u5, u6, iv lo, iv hi, u9, u10, u11, u12, u13, u14, u15, u16, u17, u18, u19, u20, u21, u22, u23, u24, u25, u26, u27, u28, u29, u30, u31, u32, u33, u34, u35, u36, u37, u38, u39, u40, u41, u42, u43, u44, u45, u46, u47, u48, u49, u50, u51, u52, u53, u54, u55, u56, u57, u58, u59, u60, u61, u62, u63, u64, u65, u66, u67, u68, u69, u70, u71, u72, u73, u74, u75, u76, u77, u78, u79, u80, u81, u82, u83, u84, u85, u86, u87, u88, u89, u90, u91, u92, u93, u94, u95, u96, u97, u98, u99, u100, u101, u102, u103, u104, u105, u106, u107, u108, u109, u110], []⟩ w := by
  have P0 := Lib.hid p_0
  have D0 := Lib.hid hA
  have T1 := Lib.hid fun (W : World) => tame_any s A n c W
  clear p_0
  have VC := Lib.hid fun (W : World) (h : DataAt W A n b o xs) => rvalid_any s A n c b o xs hn hc W h
  rw [h1] at T1
  rw [hv] at VC
  have d1 : decide (x < 1) = false := decide_eq_false (by omega)
  have d2 : decide (256 < x) = true := decide_eq_true (by omega)
  clear h1 hv hA k1 k2
  conv => arg 2; whnf
  go_wp2_with (first
    | (refine wpList_load_row rfl 31 (.tmp 3) rfl g rfl 31 _ (0, 0) _ P0.out Try.underlying31 rfl (S.i24 _ _ _ _) ?_)
    | (go_at_call 32; (with_reducible refine (T1.out _).mono ?_); rintro e w1 ⟨rfl, hb1⟩; have P1 := Lib.hid (bkBelow P0.out hb1); have D1 := Lib.hid (D0.out.later hb1); have B1 := bdT B0 B0.size hb1; clear P0 D0)
    | (refine gdOn (by rfl) ?_; refine wpList_load_row rfl 31 (.tmp 3) rfl g rfl 31 _ (0, 0) _ P1.out Try.underlying31 rfl (S.i24 _ _ _ _) ?_)
    | (go_at_call 33; (with_reducible refine (VC.out _ D1.out).mono ?_); rintro e w2 ⟨rfl, hb2⟩; have P2 := Lib.hid (bkBelow P1.out hb2); have D2 := Lib.hid (D1.out.later hb2); have B2 := bdT B1 B1.size hb2; clear P1 D1))
  go_ret
  exact ⟨rfl, B2⟩
set_option maxHeartbeats 16000000 in
set_option maxRecDepth 100000 in
theorem lou_r2 (s : S) (A : Option Addr) (n c b o : Nat) (xs : Nat → Int) (x lo hi : Int) (g : Nat) (u0 u2 u4 u5 u6 u9 u10 u11 u12 u13 u14 u15 u16 u17 u18 u19 u20 u21 u22 u23 u24 u25 u26 u27 u28 u29 u30 u31 u32 u33 u34 u35 u36 u37 u38 u39 u40 u41 u42 u43 u44 u45 u46 u47 u48 u49 u50 u51 u52 u53 u54 u55 u56 u57 u58 u59 u60 u61 u62 u63 u64 u65 u66 u67 u68 u69 u70 u71 u72 u73 u74 u75 u76 u77 u78 u79 u80 u81 u82 u83 u84 u85 u86 u87 u88 u89 u90 u91 u92 u93 u94 u95 u96 u97 u98 u99 u100 u101 u102 u103 u104 u105 u106 u107 u108 u109 u110 : Value) (h1 : decide (n ≤ 5000 ∧ s.nm.size ≤ 100) = true) (hv : vS s n xs = true) (k1 : 1 ≤ x) (k2 : x ≤ 256) (k3 : lo < 0) (hn : n ≤ 9223372036854775807) (hc : n ≤ c) (w00 w : World) (B0 : Below w00.heap.size w00 w) (p_0 : w.heap[g]? = some (.cells (s.cs A n c) 31 (0, 0))) (hA : DataAt w A n b o xs) : (tl 1 bd).wp Try.prog (bodyPost Try.prog Try.f5 (fun e w' => e = .returned (.bool true) ∧ Below w00.heap.size w00 w')) ⟨#[u0, iv x, u2, .pointer (some ⟨g, 0, none⟩), u4, u5, u6, iv lo, iv hi, u9, u10, u11, u12, u13, u14, u15, u16, u17, u18, u19, u20, u21, u22, u23, u24, u25, u26, u27, u28, u29, u30, u31, u32, u33, u34, u35, u36, u37, u38, u39, u40, u41, u42, u43, u44, u45, u46, u47, u48, u49, u50, u51, u52, u53, u54, u55, u56, u57, u58, u59, u60, u61, u62, u63, u64, u65, u66, u67, u68, u69, u70, u71, u72, u73, u74, u75, u76, u77, u78, u79, u80, u81, u82, u83, u84, u85, u86, u87, u88, u89, u90, u91, u92, u93, u94, u95, u96, u97, u98, u99, u100, u101, u102, u103, u104, u105, u106, u107, u108, u109, u110], []⟩ w := by
  have P0 := Lib.hid p_0
  have D0 := Lib.hid hA
  have T1 := Lib.hid fun (W : World) => tame_any s A n c W
  clear p_0
  have VC := Lib.hid fun (W : World) (h : DataAt W A n b o xs) => rvalid_any s A n c b o xs hn hc W h
  rw [h1] at T1
  rw [hv] at VC
  have d1 : decide (x < 1) = false := decide_eq_false (by omega)
  have d2 : decide (256 < x) = false := decide_eq_false (by omega)
  have d3 : decide (lo < 0) = true := decide_eq_true (by omega)
  clear h1 hv hA k1 k2 k3
  conv => arg 2; whnf
  go_wp2_with (first
    | (refine wpList_load_row rfl 31 (.tmp 3) rfl g rfl 31 _ (0, 0) _ P0.out Try.underlying31 rfl (S.i24 _ _ _ _) ?_)
    | (go_at_call 32; (with_reducible refine (T1.out _).mono ?_); rintro e w1 ⟨rfl, hb1⟩; have P1 := Lib.hid (bkBelow P0.out hb1); have D1 := Lib.hid (D0.out.later hb1); have B1 := bdT B0 B0.size hb1; clear P0 D0)
    | (refine gdOn (by rfl) ?_; refine wpList_load_row rfl 31 (.tmp 3) rfl g rfl 31 _ (0, 0) _ P1.out Try.underlying31 rfl (S.i24 _ _ _ _) ?_)
    | (go_at_call 33; (with_reducible refine (VC.out _ D1.out).mono ?_); rintro e w2 ⟨rfl, hb2⟩; have P2 := Lib.hid (bkBelow P1.out hb2); have D2 := Lib.hid (D1.out.later hb2); have B2 := bdT B1 B1.size hb2; clear P1 D1))
  go_ret
  exact ⟨rfl, B2⟩
set_option maxHeartbeats 16000000 in
set_option maxRecDepth 100000 in
theorem lou_r3 (s : S) (A : Option Addr) (n c b o : Nat) (xs : Nat → Int) (x lo hi : Int) (g : Nat) (u0 u2 u4 u5 u6 u9 u10 u11 u12 u13 u14 u15 u16 u17 u18 u19 u20 u21 u22 u23 u24 u25 u26 u27 u28 u29 u30 u31 u32 u33 u34 u35 u36 u37 u38 u39 u40 u41 u42 u43 u44 u45 u46 u47 u48 u49 u50 u51 u52 u53 u54 u55 u56 u57 u58 u59 u60 u61 u62 u63 u64 u65 u66 u67 u68 u69 u70 u71 u72 u73 u74 u75 u76 u77 u78 u79 u80 u81 u82 u83 u84 u85 u86 u87 u88 u89 u90 u91 u92 u93 u94 u95 u96 u97 u98 u99 u100 u101 u102 u103 u104 u105 u106 u107 u108 u109 u110 : Value) (h1 : decide (n ≤ 5000 ∧ s.nm.size ≤ 100) = true) (hv : vS s n xs = true) (k1 : 1 ≤ x) (k2 : x ≤ 256) (k3 : 0 ≤ lo) (k4 : 10000 < hi) (hn : n ≤ 9223372036854775807) (hc : n ≤ c) (w00 w : World) (B0 : Below w00.heap.size w00 w) (p_0 : w.heap[g]? = some (.cells (s.cs A n c) 31 (0, 0))) (hA : DataAt w A n b o xs) : (tl 1 bd).wp Try.prog (bodyPost Try.prog Try.f5 (fun e w' => e = .returned (.bool true) ∧ Below w00.heap.size w00 w')) ⟨#[u0, iv x, u2, .pointer (some ⟨g, 0, none⟩), u4, u5, u6, iv lo, iv hi, u9, u10, u11, u12, u13, u14, u15, u16, u17, u18, u19, u20, u21, u22, u23, u24, u25, u26, u27, u28, u29, u30, u31, u32, u33, u34, u35, u36, u37, u38, u39, u40, u41, u42, u43, u44, u45, u46, u47, u48, u49, u50, u51, u52, u53, u54, u55, u56, u57, u58, u59, u60, u61, u62, u63, u64, u65, u66, u67, u68, u69, u70, u71, u72, u73, u74, u75, u76, u77, u78, u79, u80, u81, u82, u83, u84, u85, u86, u87, u88, u89, u90, u91, u92, u93, u94, u95, u96, u97, u98, u99, u100, u101, u102, u103, u104, u105, u106, u107, u108, u109, u110], []⟩ w := by
  have P0 := Lib.hid p_0
  have D0 := Lib.hid hA
  have T1 := Lib.hid fun (W : World) => tame_any s A n c W
  clear p_0
  have VC := Lib.hid fun (W : World) (h : DataAt W A n b o xs) => rvalid_any s A n c b o xs hn hc W h
  rw [h1] at T1
  rw [hv] at VC
  have d1 : decide (x < 1) = false := decide_eq_false (by omega)
  have d2 : decide (256 < x) = false := decide_eq_false (by omega)
  have d3 : decide (lo < 0) = false := decide_eq_false (by omega)
  have d4 : decide (10000 < hi) = true := decide_eq_true (by omega)
  clear h1 hv hA k1 k2 k3 k4
  conv => arg 2; whnf
  go_wp2_with (first
    | (refine wpList_load_row rfl 31 (.tmp 3) rfl g rfl 31 _ (0, 0) _ P0.out Try.underlying31 rfl (S.i24 _ _ _ _) ?_)
    | (go_at_call 32; (with_reducible refine (T1.out _).mono ?_); rintro e w1 ⟨rfl, hb1⟩; have P1 := Lib.hid (bkBelow P0.out hb1); have D1 := Lib.hid (D0.out.later hb1); have B1 := bdT B0 B0.size hb1; clear P0 D0)
    | (refine gdOn (by rfl) ?_; refine wpList_load_row rfl 31 (.tmp 3) rfl g rfl 31 _ (0, 0) _ P1.out Try.underlying31 rfl (S.i24 _ _ _ _) ?_)
    | (go_at_call 33; (with_reducible refine (VC.out _ D1.out).mono ?_); rintro e w2 ⟨rfl, hb2⟩; have P2 := Lib.hid (bkBelow P1.out hb2); have D2 := Lib.hid (D1.out.later hb2); have B2 := bdT B1 B1.size hb2; clear P1 D1))
  go_ret
  exact ⟨rfl, B2⟩
theorem frB_of2 {s : S} {n : Nat} {xs : Nat → Int} (h : vS s n xs = true) : FrB xs n := by
  intro i hi
  have h5 := (vS_yes h).2.2.2.2.1 i hi
  unfold hb at h5
  split at h5 <;> omega
set_option maxHeartbeats 16000000 in
set_option maxRecDepth 100000 in
theorem lou_ok (s : S) (A : Option Addr) (n c b o : Nat) (xs : Nat → Int) (x lo hi : Int) (g : Nat) (u0 u2 u4 u5 u6 u9 u10 u11 u12 u13 u14 u15 u16 u17 u18 u19 u20 u21 u22 u23 u24 u25 u26 u27 u28 u29 u30 u31 u32 u33 u34 u35 u36 u37 u38 u39 u40 u41 u42 u43 u44 u45 u46 u47 u48 u49 u50 u51 u52 u53 u54 u55 u56 u57 u58 u59 u60 u61 u62 u63 u64 u65 u66 u67 u68 u69 u70 u71 u72 u73 u74 u75 u76 u77 u78 u79 u80 u81 u82 u83 u84 u85 u86 u87 u88 u89 u90 u91 u92 u93 u94 u95 u96 u97 u98 u99 u100 u101 u102 u103 u104 u105 u106 u107 u108 u109 u110 : Value) (h1 : decide (n ≤ 5000 ∧ s.nm.size ≤ 100) = true) (hv : vS s n xs = true) (hlh : lo ≤ hi) (wi : Nat) (hx : x = wi) (k1 : 1 ≤ wi) (k2 : wi ≤ 256) (k3 : 0 ≤ lo) (k4 : hi ≤ 10000) (hn : n ≤ 9223372036854775807) (hc : n ≤ c) (w00 w : World) (B0 : Below w00.heap.size w00 w) (p_0 : w.heap[g]? = some (.cells (s.cs A n c) 31 (0, 0))) (hA : DataAt w A n b o xs) : (tl 1 bd).wp Try.prog (bodyPost Try.prog Try.f5 (fun e w' => e = .returned (.bool true) ∧ Below w00.heap.size w00 w')) ⟨#[u0, iv x, u2, .pointer (some ⟨g, 0, none⟩), u4, u5, u6, iv lo, iv hi, u9, u10, u11, u12, u13, u14, u15, u16, u17, u18, u19, u20, u21, u22, u23, u24, u25, u26, u27, u28, u29, u30, u31, u32, u33, u34, u35, u36, u37, u38, u39, u40, u41, u42, u43, u44, u45, u46, u47, u48, u49, u50, u51, u52, u53, u54, u55, u56, u57, u58, u59, u60, u61, u62, u63, u64, u65, u66, u67, u68, u69, u70, u71, u72, u73, u74, u75, u76, u77, u78, u79, u80, u81, u82, u83, u84, u85, u86, u87, u88, u89, u90, u91, u92, u93, u94, u95, u96, u97, u98, u99, u100, u101, u102, u103, u104, u105, u106, u107, u108, u109, u110], []⟩ w := by
  have P0 := Lib.hid p_0
  have D0 := Lib.hid hA
  have T1 := Lib.hid fun (W : World) => tame_any s A n c W
  clear p_0
  have VC := Lib.hid fun (W : World) (h : DataAt W A n b o xs) => rvalid_any s A n c b o xs hn hc W h
  have hn4 := (vS_yes hv).2.2.1
  have hfb := frB_of2 hv
  have FC := Lib.hid fun (W : World) (h : DataAt W A n b o xs) => slices_any s A n c b o xs wi hi hv k1 k2 (by omega) k4 hn4 hc hfb W h
  have AC := Lib.hid fun (W : World) (h : DataAt W A n b o xs) => slices_any s A n c b o xs wi lo hv k1 k2 k3 (by omega) hn4 hc hfb W h
  have HM := Lib.hid (fun i => @outs_in xs n wi lo hi hlh (winN n wi) i)
  have HD := Lib.hid (fun i => @outs_mod xs n wi hi (winN n wi) i)
  have HR := Lib.hid (fun i => @outs_rise xs n wi hi k1 (winN n wi) i)
  have HS := Lib.hid (@outs_some xs n wi hi k1 (winN n wi) (winN_le n wi k1))
  have HL1 := Lib.hid (show (outs xs n wi hi (winN n wi)).length ≤ 5000 from by
    have h1 := outK_len xs n wi hi (winN n wi)
    rw [← outs_len] at h1
    have h2 : winN n wi ≤ n + wi - 1 := Nat.div_le_self _ _
    omega)
  have HL2 := Lib.hid (show (outs xs n wi lo (winN n wi)).length ≤ 5000 from by
    have h1 := outK_len xs n wi lo (winN n wi)
    rw [← outs_len] at h1
    have h2 : winN n wi ≤ n + wi - 1 := Nat.div_le_self _ _
    omega)
  have HWB := Lib.hid (show ((winN n wi * wi : Nat) : Int) ≤ 5000 from by
    have h1 : winN n wi * wi ≤ n + wi - 1 := Nat.div_mul_le_self _ _
    omega)
  rw [← hx] at FC
  rw [← hx] at AC
  rw [← hx] at HD
  generalize outs xs n wi hi (winN n wi) = few at *
  generalize outs xs n wi lo (winN n wi) = all at *
  rw [h1] at T1
  rw [hv] at VC
  have d1 : decide (x < 1) = false := decide_eq_false (by omega)
  have d2 : decide (256 < x) = false := decide_eq_false (by omega)
  have d3 : decide (lo < 0) = false := decide_eq_false (by omega)
  have d4 : decide (10000 < hi) = false := decide_eq_false (by omega)
  have HX1 := Lib.hid (show 1 ≤ x ∧ x ≤ 256 by omega)
  have HN := Lib.hid hn4
  have y1 : (s.cs A n c)[1]? = some (Value.slice A n c) := rfl
  have Y1 := Lib.hid y1
  clear hx h1 hv hA hfb hn4 k1 k2 k3 k4 hn hc hlh y1
  conv => arg 2; whnf
  go_upto_region 4 with (first
    | (refine wpList_load_row rfl 31 (.tmp 3) rfl g rfl 31 _ (0, 0) _ P0.out Try.underlying31 rfl (S.i24 _ _ _ _) ?_)
    | (go_at_call 32; (with_reducible refine (T1.out _).mono ?_); rintro e w1 ⟨rfl, hb1⟩; have P1 := Lib.hid (bkBelow P0.out hb1); have D1 := Lib.hid (D0.out.later hb1); have B1 := bdT B0 B0.size hb1; clear P0 D0)
    | (refine gdOn (by rfl) ?_; refine wpList_load_row rfl 31 (.tmp 3) rfl g rfl 31 _ (0, 0) _ P1.out Try.underlying31 rfl (S.i24 _ _ _ _) ?_)
    | (go_at_call 33; (with_reducible refine (VC.out _ D1.out).mono ?_); rintro e w2 ⟨rfl, hb2⟩; have P2 := Lib.hid (bkBelow P1.out hb2); have D2 := Lib.hid (D1.out.later hb2); have B2 := bdT B1 B1.size hb2; clear P1 D1))
  clear d1 d2 d3 d4
  go_upto_region 5 with (first
    | (refine wpList_load_row rfl 31 (.tmp 3) rfl g rfl 31 _ (0, 0) _ P2.out Try.underlying31 rfl (S.i24 _ _ _ _) ?_)
    | (go_at_call 37; (with_reducible refine (FC.out _ D2.out).mono ?_); rintro e w3 ⟨A1, c1, b1, o1, rfl, X1, hb3⟩; have P3 := Lib.hid (bkBelow P2.out hb3); have D3 := Lib.hid (D2.out.later hb3); have B3 := bdT B2 B2.size hb3; have E3 := Lib.hid (X1); clear P2 D2))
  go_upto_region 6 with (first
    | (refine wpList_load_row rfl 31 (.tmp 3) rfl g rfl 31 _ (0, 0) _ P3.out Try.underlying31 rfl (S.i24 _ _ _ _) ?_)
    | (go_at_call 37; (with_reducible refine (AC.out _ D3.out).mono ?_); rintro e w4 ⟨A2, c2, b2, o2, rfl, X2, hb4⟩; have P4 := Lib.hid (bkBelow P3.out hb4); have D4 := Lib.hid (D3.out.later hb4); have E4 := Lib.hid (E3.out.later hb4); have B4 := bdT B3 B3.size hb4; have F4 := Lib.hid (X2); clear P3 D3 E3))
  have z1 := (bkCell P4.out 1).trans Y1.out
  have TE := Lib.hid E4.out.top
  have l1 := HL1.out
  go_wp2
  go_loop [66] (fun v => ∃ i : Nat, i ≤ few.length ∧ v = iv i) (fun v => few.length - (intOf v).toNat)
  case atStart => exact ⟨0, Nat.zero_le _, rfl⟩
  case round =>
    obtain ⟨i, hi, rfl⟩ := hrel
    have g0 : (0 : Int) ≤ (i : Int) := by omega
    by_cases hlt : i < few.length
    · have tE := TE.out (by omega)
      subst tE
      have ha := E4.out.cell i hlt
      obtain ⟨j, hj, hje⟩ := HM.out i hlt
      obtain ⟨a0, a1, a2⟩ := HD.out i hlt
      have CC := Lib.hid (contains_any A2 all.length c2 b2 o2 (fun i => all.getD i 0) (few.getD i 0) true ⟨fun _ => ⟨j, hj, hje.symm⟩, fun _ => rfl⟩ HL2.out _ F4.out)
      have e1 : (few.getD i 0 % x != 0) = false := by rw [a1]; rfl
      have hx1 := HX1.out.1
      have hw := HWB.out
      have e2 : (x == 0) = false := by
        have : x ≠ 0 := by omega
        simp [this]
      have h1 : (i : Int) < (few.length : Int) := by omega
      by_cases hz : 0 < i
      · have hr := HR.out (i - 1) (by omega)
        rw [show i - 1 + 1 = i by omega] at hr
        have hb := E4.out.cell (i - 1) (by omega)
        have e3 : decide (few.getD i 0 ≤ few.getD (i - 1) 0) = false := decide_eq_false (by omega)
        have hz1 : decide (0 < (i : Int)) = true := decide_eq_true (by omega)
        have hz2 : decide (0 < i) = true := decide_eq_true hz
        have hz3 : 1 ≤ (i : Int) := by omega
        clear hr hj hje a1
        generalize few.getD i 0 = at_ at *
        generalize few.getD (i - 1) 0 = pr at *
        go_wp2_with (go_at_call 38; (with_reducible refine CC.out.mono ?_); rintro e w9 ⟨rfl, rfl⟩)
        go_round
        case rel => exact ⟨i + 1, by omega, by go_num⟩
        case measure => simp [intOf]; omega
      · have hz1 : decide (0 < (i : Int)) = false := decide_eq_false (by omega)
        have hz2 : decide (0 < i) = false := decide_eq_false hz
        clear hj hje a1
        generalize few.getD i 0 = at_ at *
        go_wp2_with (go_at_call 38; (with_reducible refine CC.out.mono ?_); rintro e w9 ⟨rfl, rfl⟩)
        go_round
        case rel => exact ⟨i + 1, by omega, by go_num⟩
        case measure => simp [intOf]; omega
    · have h1 : decide ((i : Int) < (few.length : Int)) = false := decide_eq_false (by omega)
      by_cases hz : 0 < few.length
      · have CN := Lib.hid (containsNZ_any A n c b o xs true ⟨fun _ => HS.out.1 hz, fun _ => rfl⟩ (by have := HN.out; omega) _ D4.out)
        have hz1 : decide (0 < (few.length : Int)) = true := decide_eq_true (by omega)
        have hz2 : decide (0 < few.length) = true := decide_eq_true hz
        clear hz
        go_wp2_with (go_at_call 39; (with_reducible refine CN.out.mono ?_); rintro e w9 ⟨rfl, rfl⟩)
        go_ret
        exact ⟨rfl, B4⟩
      · have CN := Lib.hid (containsNZ_any A n c b o xs false ⟨fun h => by simp at h, fun h => absurd (HS.out.2 h) hz⟩ (by have := HN.out; omega) _ D4.out)
        have hz1 : decide (0 < (few.length : Int)) = false := decide_eq_false (by omega)
        have hz2 : decide (0 < few.length) = false := decide_eq_false hz
        clear hz
        go_wp2_with (go_at_call 39; (with_reducible refine CN.out.mono ?_); rintro e w9 ⟨rfl, rfl⟩)
        go_ret
        exact ⟨rfl, B4⟩
set_option maxHeartbeats 16000000 in
set_option maxRecDepth 100000 in
theorem lou_any (s : S) (A : Option Addr) (n c b o : Nat) (xs : Nat → Int) (x lo hi : Int) (g : Nat) (u0 u2 u4 u5 u6 u9 u10 u11 u12 u13 u14 u15 u16 u17 u18 u19 u20 u21 u22 u23 u24 u25 u26 u27 u28 u29 u30 u31 u32 u33 u34 u35 u36 u37 u38 u39 u40 u41 u42 u43 u44 u45 u46 u47 u48 u49 u50 u51 u52 u53 u54 u55 u56 u57 u58 u59 u60 u61 u62 u63 u64 u65 u66 u67 u68 u69 u70 u71 u72 u73 u74 u75 u76 u77 u78 u79 u80 u81 u82 u83 u84 u85 u86 u87 u88 u89 u90 u91 u92 u93 u94 u95 u96 u97 u98 u99 u100 u101 u102 u103 u104 u105 u106 u107 u108 u109 u110 : Value) (hlh : lo ≤ hi) (hn : n ≤ 9223372036854775807) (hc : n ≤ c) (w00 w : World) (B0 : Below w00.heap.size w00 w) (p_0 : w.heap[g]? = some (.cells (s.cs A n c) 31 (0, 0))) (hA : DataAt w A n b o xs) : (tl 1 bd).wp Try.prog (bodyPost Try.prog Try.f5 (fun e w' => e = .returned (.bool true) ∧ Below w00.heap.size w00 w')) ⟨#[u0, iv x, u2, .pointer (some ⟨g, 0, none⟩), u4, u5, u6, iv lo, iv hi, u9, u10, u11, u12, u13, u14, u15, u16, u17, u18, u19, u20, u21, u22, u23, u24, u25, u26, u27, u28, u29, u30, u31, u32, u33, u34, u35, u36, u37, u38, u39, u40, u41, u42, u43, u44, u45, u46, u47, u48, u49, u50, u51, u52, u53, u54, u55, u56, u57, u58, u59, u60, u61, u62, u63, u64, u65, u66, u67, u68, u69, u70, u71, u72, u73, u74, u75, u76, u77, u78, u79, u80, u81, u82, u83, u84, u85, u86, u87, u88, u89, u90, u91, u92, u93, u94, u95, u96, u97, u98, u99, u100, u101, u102, u103, u104, u105, u106, u107, u108, u109, u110], []⟩ w := by
  cases h1 : decide (n ≤ 5000 ∧ s.nm.size ≤ 100)
  · exact lou_wild s A n c b o xs x lo hi g u0 u2 u4 u5 u6 u9 u10 u11 u12 u13 u14 u15 u16 u17 u18 u19 u20 u21 u22 u23 u24 u25 u26 u27 u28 u29 u30 u31 u32 u33 u34 u35 u36 u37 u38 u39 u40 u41 u42 u43 u44 u45 u46 u47 u48 u49 u50 u51 u52 u53 u54 u55 u56 u57 u58 u59 u60 u61 u62 u63 u64 u65 u66 u67 u68 u69 u70 u71 u72 u73 u74 u75 u76 u77 u78 u79 u80 u81 u82 u83 u84 u85 u86 u87 u88 u89 u90 u91 u92 u93 u94 u95 u96 u97 u98 u99 u100 u101 u102 u103 u104 u105 u106 u107 u108 u109 u110 h1 hn hc w00 w B0 p_0 hA
  cases hv : vS s n xs
  · exact lou_bad s A n c b o xs x lo hi g u0 u2 u4 u5 u6 u9 u10 u11 u12 u13 u14 u15 u16 u17 u18 u19 u20 u21 u22 u23 u24 u25 u26 u27 u28 u29 u30 u31 u32 u33 u34 u35 u36 u37 u38 u39 u40 u41 u42 u43 u44 u45 u46 u47 u48 u49 u50 u51 u52 u53 u54 u55 u56 u57 u58 u59 u60 u61 u62 u63 u64 u65 u66 u67 u68 u69 u70 u71 u72 u73 u74 u75 u76 u77 u78 u79 u80 u81 u82 u83 u84 u85 u86 u87 u88 u89 u90 u91 u92 u93 u94 u95 u96 u97 u98 u99 u100 u101 u102 u103 u104 u105 u106 u107 u108 u109 u110 h1 hv hn hc w00 w B0 p_0 hA
  by_cases q1 : x < 1
  · exact lou_r0 s A n c b o xs x lo hi g u0 u2 u4 u5 u6 u9 u10 u11 u12 u13 u14 u15 u16 u17 u18 u19 u20 u21 u22 u23 u24 u25 u26 u27 u28 u29 u30 u31 u32 u33 u34 u35 u36 u37 u38 u39 u40 u41 u42 u43 u44 u45 u46 u47 u48 u49 u50 u51 u52 u53 u54 u55 u56 u57 u58 u59 u60 u61 u62 u63 u64 u65 u66 u67 u68 u69 u70 u71 u72 u73 u74 u75 u76 u77 u78 u79 u80 u81 u82 u83 u84 u85 u86 u87 u88 u89 u90 u91 u92 u93 u94 u95 u96 u97 u98 u99 u100 u101 u102 u103 u104 u105 u106 u107 u108 u109 u110 h1 hv q1 hn hc w00 w B0 p_0 hA
  by_cases q2 : 256 < x
  · exact lou_r1 s A n c b o xs x lo hi g u0 u2 u4 u5 u6 u9 u10 u11 u12 u13 u14 u15 u16 u17 u18 u19 u20 u21 u22 u23 u24 u25 u26 u27 u28 u29 u30 u31 u32 u33 u34 u35 u36 u37 u38 u39 u40 u41 u42 u43 u44 u45 u46 u47 u48 u49 u50 u51 u52 u53 u54 u55 u56 u57 u58 u59 u60 u61 u62 u63 u64 u65 u66 u67 u68 u69 u70 u71 u72 u73 u74 u75 u76 u77 u78 u79 u80 u81 u82 u83 u84 u85 u86 u87 u88 u89 u90 u91 u92 u93 u94 u95 u96 u97 u98 u99 u100 u101 u102 u103 u104 u105 u106 u107 u108 u109 u110 h1 hv (by omega) q2 hn hc w00 w B0 p_0 hA
  by_cases q3 : lo < 0
  · exact lou_r2 s A n c b o xs x lo hi g u0 u2 u4 u5 u6 u9 u10 u11 u12 u13 u14 u15 u16 u17 u18 u19 u20 u21 u22 u23 u24 u25 u26 u27 u28 u29 u30 u31 u32 u33 u34 u35 u36 u37 u38 u39 u40 u41 u42 u43 u44 u45 u46 u47 u48 u49 u50 u51 u52 u53 u54 u55 u56 u57 u58 u59 u60 u61 u62 u63 u64 u65 u66 u67 u68 u69 u70 u71 u72 u73 u74 u75 u76 u77 u78 u79 u80 u81 u82 u83 u84 u85 u86 u87 u88 u89 u90 u91 u92 u93 u94 u95 u96 u97 u98 u99 u100 u101 u102 u103 u104 u105 u106 u107 u108 u109 u110 h1 hv (by omega) (by omega) q3 hn hc w00 w B0 p_0 hA
  by_cases q4 : 10000 < hi
  · exact lou_r3 s A n c b o xs x lo hi g u0 u2 u4 u5 u6 u9 u10 u11 u12 u13 u14 u15 u16 u17 u18 u19 u20 u21 u22 u23 u24 u25 u26 u27 u28 u29 u30 u31 u32 u33 u34 u35 u36 u37 u38 u39 u40 u41 u42 u43 u44 u45 u46 u47 u48 u49 u50 u51 u52 u53 u54 u55 u56 u57 u58 u59 u60 u61 u62 u63 u64 u65 u66 u67 u68 u69 u70 u71 u72 u73 u74 u75 u76 u77 u78 u79 u80 u81 u82 u83 u84 u85 u86 u87 u88 u89 u90 u91 u92 u93 u94 u95 u96 u97 u98 u99 u100 u101 u102 u103 u104 u105 u106 u107 u108 u109 u110 h1 hv (by omega) (by omega) (by omega) q4 hn hc w00 w B0 p_0 hA
  exact lou_ok s A n c b o xs x lo hi g u0 u2 u4 u5 u6 u9 u10 u11 u12 u13 u14 u15 u16 u17 u18 u19 u20 u21 u22 u23 u24 u25 u26 u27 u28 u29 u30 u31 u32 u33 u34 u35 u36 u37 u38 u39 u40 u41 u42 u43 u44 u45 u46 u47 u48 u49 u50 u51 u52 u53 u54 u55 u56 u57 u58 u59 u60 u61 u62 u63 u64 u65 u66 u67 u68 u69 u70 u71 u72 u73 u74 u75 u76 u77 u78 u79 u80 u81 u82 u83 u84 u85 u86 u87 u88 u89 u90 u91 u92 u93 u94 u95 u96 u97 u98 u99 u100 u101 u102 u103 u104 u105 u106 u107 u108 u109 u110 h1 hv hlh x.toNat (by omega) (by omega) (by omega) (by omega) (by omega) hn hc w00 w B0 p_0 hA
set_option maxHeartbeats 16000000 in
set_option maxRecDepth 100000 in
theorem louder_1 (s : S) (A : Option Addr) (n c b o : Nat) (xs : Nat → Int) (x p q : Int) (hpq : q < p) (hn : n ≤ 9223372036854775807) (hc : n ≤ c) (w : World) (hA : DataAt w A n b o xs) : Calls Try.prog 5 #[.agg (s.cs A n c), iv x, .agg #[iv p, iv q]] w fun e w' => e = .returned (.bool true) ∧ Below w.heap.size w w' := by
  have HLH := Lib.hid (show q ≤ p by omega)
  have m1 : (q < p) = True := eq_true hpq
  have m2 : (p < q) = False := eq_false (by omega)
  clear hpq
  have B0 : Below w.heap.size w ((w.alloc (Obj.cells (s.cs A n c) 31)).alloc (Obj.cells #[iv p, iv q] 34)) := ((Below.refl _ _).alloc (Nat.le_refl _) _).alloc (by simp) _
  have P0 := Lib.hid (heap_alloc2_old w (Obj.cells (s.cs A n c) 31) (Obj.cells #[iv p, iv q] 34))
  have Q0 := Lib.hid (heap_alloc2_new w (Obj.cells (s.cs A n c) 31) (Obj.cells #[iv p, iv q] 34))
  have D0 := Lib.hid (hA.later B0)
  have HH := Lib.hid (And.intro hn hc)
  clear hA hn hc
  go_enter Try.func5, Try.ntmps5
  go_upto_region 1 with (fail)
  rename_i K hK
  generalize ((w.alloc (Obj.cells (s.cs A n c) 31)).alloc (Obj.cells #[iv p, iv q] 34)) = w0 at *
  refine start_ (n := 12) (S := fun w' => w'.heap[w.heap.size]? = some (.cells (s.cs A n c) 31 (0, 0)) ∧ w'.heap[w.heap.size + 1]? = some (.cells #[iv p, iv q] 34 (0, 0)) ∧ DataAt w' A n b o xs ∧ Below w.heap.size w w') (ds := []) #[false, false, false, false, false, false, false, false, false, false, false, false] (by kernel_rfl) rfl rfl ⟨P0.out, Q0.out, ⟨D0.out.top, D0.out.low, D0.out.cell⟩, B0.drew⟩ (fun hHeld => ?_)
  refine pure_ (i := 0) (N := some 16) (v := ?_) (a' := ?_) #[true, false, false, false, false, false, false, false, false, false, false, false] rfl rfl (by kernel_rfl) (fun _ _ _ h => h) (Or.inl ⟨by rfl, ?_⟩) ?_ ?_
  rotate_left
  · intro w'
    go_simp
    with_reducible rfl
  rotate_left
  · simp only [Act.put, List.setIfInBounds_toArray, List.set_cons_zero, List.set_cons_succ, i64_w, i32_w]
    rfl
  refine pure_ (i := 2) (N := some 18) (v := ?_) (a' := ?_) #[true, false, true, false, false, false, false, false, false, false, false, false] rfl rfl (by kernel_rfl) (fun _ _ _ h => h) (Or.inl ⟨by rfl, ?_⟩) ?_ ?_
  rotate_left
  · intro w'
    go_simp
    with_reducible rfl
  rotate_left
  · simp only [Act.put, List.setIfInBounds_toArray, List.set_cons_zero, List.set_cons_succ, i64_w, i32_w]
    rfl
  refine pure_ (i := 5) (N := some 21) (v := ?_) (a' := ?_) #[true, false, true, false, false, true, false, false, false, false, false, false] rfl rfl (by kernel_rfl) (fun _ _ _ h => h) (Or.inl ⟨by rfl, ?_⟩) ?_ ?_
  rotate_left
  · intro w'
    go_simp
    with_reducible rfl
  rotate_left
  · simp only [Act.put, List.setIfInBounds_toArray, List.set_cons_zero, List.set_cons_succ, i64_w, i32_w]
    rfl
  refine pure_ (i := 7) (N := some 23) (v := ?_) (a' := ?_) #[true, false, true, false, false, true, false, true, false, false, false, false] rfl rfl (by kernel_rfl) (fun _ _ _ h => h) (Or.inl ⟨by rfl, ?_⟩) ?_ ?_
  rotate_left
  · intro w'
    go_simp
    with_reducible rfl
  rotate_left
  · simp only [Act.put, List.setIfInBounds_toArray, List.set_cons_zero, List.set_cons_succ, i64_w, i32_w]
    rfl
  refine take_ (i := 1) (N := some 17) (v := ?_) (a' := ?_) #[true, true, true, false, false, true, false, true, false, false, false, false] rfl rfl (by kernel_rfl) (fun _ _ _ h => h) (Or.inl ⟨by rfl, ?_⟩) hHeld ?_ ?_
  rotate_left
  · rintro w' ⟨s0, s1, s2, s3⟩
    have zc := (bkCell s1 0).trans (show (#[iv p, iv q] : Array Value)[0]? = some (iv p) from rfl)
    clear s0 s1 s2 s3
    go_simp
    with_reducible rfl
  rotate_left
  · simp only [Act.put, List.setIfInBounds_toArray, List.set_cons_zero, List.set_cons_succ, i64_w, i32_w]
    rfl
  refine take_ (i := 3) (N := some 19) (v := ?_) (a' := ?_) #[true, true, true, true, false, true, false, true, false, false, false, false] rfl rfl (by kernel_rfl) (fun _ _ _ h => h) (Or.inl ⟨by rfl, ?_⟩) hHeld ?_ ?_
  rotate_left
  · rintro w' ⟨s0, s1, s2, s3⟩
    have zc := (bkCell s1 1).trans (show (#[iv p, iv q] : Array Value)[1]? = some (iv q) from rfl)
    clear s0 s1 s2 s3
    go_simp
    with_reducible rfl
  rotate_left
  · simp only [Act.put, List.setIfInBounds_toArray, List.set_cons_zero, List.set_cons_succ, i64_w, i32_w]
    rfl
  refine pure_ (i := 4) (N := some 20) (v := ?_) (a' := ?_) #[true, true, true, true, true, true, false, true, false, false, false, false] rfl rfl (by kernel_rfl) (fun _ _ _ h => h) (Or.inl ⟨by rfl, ?_⟩) ?_ ?_
  rotate_left
  · intro w'
    go_simp
    with_reducible rfl
  rotate_left
  · simp only [Act.put, List.setIfInBounds_toArray, List.set_cons_zero, List.set_cons_succ, i64_w, i32_w]
    rfl
  refine pure_ (i := 10) (N := some 7) (v := ?_) (a' := ?_) #[true, true, true, true, true, true, false, true, false, false, true, false] rfl rfl (by kernel_rfl) (fun _ _ _ h => h) (Or.inl ⟨by rfl, ?_⟩) ?_ ?_
  rotate_left
  · intro w'
    go_simp
    with_reducible rfl
  rotate_left
  · simp only [Act.put, List.setIfInBounds_toArray, List.set_cons_zero, List.set_cons_succ, i64_w, i32_w]
    rfl
  refine take_ (i := 6) (N := some 22) (v := ?_) (a' := ?_) #[true, true, true, true, true, true, true, true, false, false, true, false] rfl rfl (by kernel_rfl) (fun _ _ _ h => h) (Or.inl ⟨by rfl, ?_⟩) hHeld ?_ ?_
  rotate_left
  · rintro w' ⟨s0, s1, s2, s3⟩
    have zc := (bkCell s1 0).trans (show (#[iv p, iv q] : Array Value)[0]? = some (iv p) from rfl)
    clear s0 s1 s2 s3
    go_simp
    with_reducible rfl
  rotate_left
  · simp only [Act.put, List.setIfInBounds_toArray, List.set_cons_zero, List.set_cons_succ, i64_w, i32_w]
    rfl
  refine take_ (i := 8) (N := some 24) (v := ?_) (a' := ?_) #[true, true, true, true, true, true, true, true, true, false, true, false] rfl rfl (by kernel_rfl) (fun _ _ _ h => h) (Or.inl ⟨by rfl, ?_⟩) hHeld ?_ ?_
  rotate_left
  · rintro w' ⟨s0, s1, s2, s3⟩
    have zc := (bkCell s1 1).trans (show (#[iv p, iv q] : Array Value)[1]? = some (iv q) from rfl)
    clear s0 s1 s2 s3
    go_simp
    with_reducible rfl
  rotate_left
  · simp only [Act.put, List.setIfInBounds_toArray, List.set_cons_zero, List.set_cons_succ, i64_w, i32_w]
    rfl
  refine pure_ (i := 9) (N := some 25) (v := ?_) (a' := ?_) #[true, true, true, true, true, true, true, true, true, true, true, false] rfl rfl (by kernel_rfl) (fun _ _ _ h => h) (Or.inl ⟨by rfl, ?_⟩) ?_ ?_
  rotate_left
  · intro w'
    go_simp
    with_reducible rfl
  rotate_left
  · simp only [Act.put, List.setIfInBounds_toArray, List.set_cons_zero, List.set_cons_succ, i64_w, i32_w]
    rfl
  refine pure_ (i := 11) (N := some 8) (v := ?_) (a' := ?_) #[true, true, true, true, true, true, true, true, true, true, true, true] rfl rfl (by kernel_rfl) (fun _ _ _ h => h) (Or.inl ⟨by rfl, ?_⟩) ?_ ?_
  rotate_left
  · intro w'
    go_simp
    with_reducible rfl
  rotate_left
  · simp only [Act.put, List.setIfInBounds_toArray, List.set_cons_zero, List.set_cons_succ, i64_w, i32_w]
    rfl
  refine done_ (by kernel_rfl) ?_
  obtain ⟨s0, s1, s2, s3⟩ := hHeld
  exact hK _ _ (lou_any s A n c b o xs x q p (w.heap.size) _ _ _ _ _ _ _ _ _ _ _ _ _ _ _ _ _ _ _ _ _ _ _ _ _ _ _ _ _ _ _ _ _ _ _ _ _ _ _ _ _ _ _ _ _ _ _ _ _ _ _ _ _ _ _ _ _ _ _ _ _ _ _ _ _ _ _ _ _ _ _ _ _ _ _ _ _ _ _ _ _ _ _ _ _ _ _ _ _ _ _ _ _ _ _ _ _ _ _ _ _ _ _ _ _ _ _ HLH.out HH.out.1 HH.out.2 w _ s3 s0 s2)
set_option maxHeartbeats 16000000 in
set_option maxRecDepth 100000 in
theorem louder_2 (s : S) (A : Option Addr) (n c b o : Nat) (xs : Nat → Int) (x p q : Int) (hpq : p < q) (hn : n ≤ 9223372036854775807) (hc : n ≤ c) (w : World) (hA : DataAt w A n b o xs) : Calls Try.prog 5 #[.agg (s.cs A n c), iv x, .agg #[iv p, iv q]] w fun e w' => e = .returned (.bool true) ∧ Below w.heap.size w w' := by
  have HLH := Lib.hid (show p ≤ q by omega)
  have m1 : (q < p) = False := eq_false (by omega)
  have m2 : (p < q) = True := eq_true hpq
  clear hpq
  have B0 : Below w.heap.size w ((w.alloc (Obj.cells (s.cs A n c) 31)).alloc (Obj.cells #[iv p, iv q] 34)) := ((Below.refl _ _).alloc (Nat.le_refl _) _).alloc (by simp) _
  have P0 := Lib.hid (heap_alloc2_old w (Obj.cells (s.cs A n c) 31) (Obj.cells #[iv p, iv q] 34))
  have Q0 := Lib.hid (heap_alloc2_new w (Obj.cells (s.cs A n c) 31) (Obj.cells #[iv p, iv q] 34))
  have D0 := Lib.hid (hA.later B0)
  have HH := Lib.hid (And.intro hn hc)
  clear hA hn hc
  go_enter Try.func5, Try.ntmps5
  go_upto_region 1 with (fail)
  rename_i K hK
  generalize ((w.alloc (Obj.cells (s.cs A n c) 31)).alloc (Obj.cells #[iv p, iv q] 34)) = w0 at *
  refine start_ (n := 12) (S := fun w' => w'.heap[w.heap.size]? = some (.cells (s.cs A n c) 31 (0, 0)) ∧ w'.heap[w.heap.size + 1]? = some (.cells #[iv p, iv q] 34 (0, 0)) ∧ DataAt w' A n b o xs ∧ Below w.heap.size w w') (ds := []) #[false, false, false, false, false, false, false, false, false, false, false, false] (by kernel_rfl) rfl rfl ⟨P0.out, Q0.out, ⟨D0.out.top, D0.out.low, D0.out.cell⟩, B0.drew⟩ (fun hHeld => ?_)
  refine pure_ (i := 0) (N := some 16) (v := ?_) (a' := ?_) #[true, false, false, false, false, false, false, false, false, false, false, false] rfl rfl (by kernel_rfl) (fun _ _ _ h => h) (Or.inl ⟨by rfl, ?_⟩) ?_ ?_
  rotate_left
  · intro w'
    go_simp
    with_reducible rfl
  rotate_left
  · simp only [Act.put, List.setIfInBounds_toArray, List.set_cons_zero, List.set_cons_succ, i64_w, i32_w]
    rfl
  refine pure_ (i := 2) (N := some 18) (v := ?_) (a' := ?_) #[true, false, true, false, false, false, false, false, false, false, false, false] rfl rfl (by kernel_rfl) (fun _ _ _ h => h) (Or.inl ⟨by rfl, ?_⟩) ?_ ?_
  rotate_left
  · intro w'
    go_simp
    with_reducible rfl
  rotate_left
  · simp only [Act.put, List.setIfInBounds_toArray, List.set_cons_zero, List.set_cons_succ, i64_w, i32_w]
    rfl
  refine pure_ (i := 5) (N := some 21) (v := ?_) (a' := ?_) #[true, false, true, false, false, true, false, false, false, false, false, false] rfl rfl (by kernel_rfl) (fun _ _ _ h => h) (Or.inl ⟨by rfl, ?_⟩) ?_ ?_
  rotate_left
  · intro w'
    go_simp
    with_reducible rfl
  rotate_left
  · simp only [Act.put, List.setIfInBounds_toArray, List.set_cons_zero, List.set_cons_succ, i64_w, i32_w]
    rfl
  refine pure_ (i := 7) (N := some 23) (v := ?_) (a' := ?_) #[true, false, true, false, false, true, false, true, false, false, false, false] rfl rfl (by kernel_rfl) (fun _ _ _ h => h) (Or.inl ⟨by rfl, ?_⟩) ?_ ?_
  rotate_left
  · intro w'
    go_simp
    with_reducible rfl
  rotate_left
  · simp only [Act.put, List.setIfInBounds_toArray, List.set_cons_zero, List.set_cons_succ, i64_w, i32_w]
    rfl
  refine take_ (i := 1) (N := some 17) (v := ?_) (a' := ?_) #[true, true, true, false, false, true, false, true, false, false, false, false] rfl rfl (by kernel_rfl) (fun _ _ _ h => h) (Or.inl ⟨by rfl, ?_⟩) hHeld ?_ ?_
  rotate_left
  · rintro w' ⟨s0, s1, s2, s3⟩
    have zc := (bkCell s1 0).trans (show (#[iv p, iv q] : Array Value)[0]? = some (iv p) from rfl)
    clear s0 s1 s2 s3
    go_simp
    with_reducible rfl
  rotate_left
  · simp only [Act.put, List.setIfInBounds_toArray, List.set_cons_zero, List.set_cons_succ, i64_w, i32_w]
    rfl
  refine take_ (i := 3) (N := some 19) (v := ?_) (a' := ?_) #[true, true, true, true, false, true, false, true, false, false, false, false] rfl rfl (by kernel_rfl) (fun _ _ _ h => h) (Or.inl ⟨by rfl, ?_⟩) hHeld ?_ ?_
  rotate_left
  · rintro w' ⟨s0, s1, s2, s3⟩
    have zc := (bkCell s1 1).trans (show (#[iv p, iv q] : Array Value)[1]? = some (iv q) from rfl)
    clear s0 s1 s2 s3
    go_simp
    with_reducible rfl
  rotate_left
  · simp only [Act.put, List.setIfInBounds_toArray, List.set_cons_zero, List.set_cons_succ, i64_w, i32_w]
    rfl
  refine pure_ (i := 4) (N := some 20) (v := ?_) (a' := ?_) #[true, true, true, true, true, true, false, true, false, false, false, false] rfl rfl (by kernel_rfl) (fun _ _ _ h => h) (Or.inl ⟨by rfl, ?_⟩) ?_ ?_
  rotate_left
  · intro w'
    go_simp
    with_reducible rfl
  rotate_left
  · simp only [Act.put, List.setIfInBounds_toArray, List.set_cons_zero, List.set_cons_succ, i64_w, i32_w]
    rfl
  refine pure_ (i := 10) (N := some 7) (v := ?_) (a' := ?_) #[true, true, true, true, true, true, false, true, false, false, true, false] rfl rfl (by kernel_rfl) (fun _ _ _ h => h) (Or.inl ⟨by rfl, ?_⟩) ?_ ?_
  rotate_left
  · intro w'
    go_simp
    with_reducible rfl
  rotate_left
  · simp only [Act.put, List.setIfInBounds_toArray, List.set_cons_zero, List.set_cons_succ, i64_w, i32_w]
    rfl
  refine take_ (i := 6) (N := some 22) (v := ?_) (a' := ?_) #[true, true, true, true, true, true, true, true, false, false, true, false] rfl rfl (by kernel_rfl) (fun _ _ _ h => h) (Or.inl ⟨by rfl, ?_⟩) hHeld ?_ ?_
  rotate_left
  · rintro w' ⟨s0, s1, s2, s3⟩
    have zc := (bkCell s1 0).trans (show (#[iv p, iv q] : Array Value)[0]? = some (iv p) from rfl)
    clear s0 s1 s2 s3
    go_simp
    with_reducible rfl
  rotate_left
  · simp only [Act.put, List.setIfInBounds_toArray, List.set_cons_zero, List.set_cons_succ, i64_w, i32_w]
    rfl
  refine take_ (i := 8) (N := some 24) (v := ?_) (a' := ?_) #[true, true, true, true, true, true, true, true, true, false, true, false] rfl rfl (by kernel_rfl) (fun _ _ _ h => h) (Or.inl ⟨by rfl, ?_⟩) hHeld ?_ ?_
  rotate_left
  · rintro w' ⟨s0, s1, s2, s3⟩
    have zc := (bkCell s1 1).trans (show (#[iv p, iv q] : Array Value)[1]? = some (iv q) from rfl)
    clear s0 s1 s2 s3
    go_simp
    with_reducible rfl
  rotate_left
  · simp only [Act.put, List.setIfInBounds_toArray, List.set_cons_zero, List.set_cons_succ, i64_w, i32_w]
    rfl
  refine pure_ (i := 9) (N := some 25) (v := ?_) (a' := ?_) #[true, true, true, true, true, true, true, true, true, true, true, false] rfl rfl (by kernel_rfl) (fun _ _ _ h => h) (Or.inl ⟨by rfl, ?_⟩) ?_ ?_
  rotate_left
  · intro w'
    go_simp
    with_reducible rfl
  rotate_left
  · simp only [Act.put, List.setIfInBounds_toArray, List.set_cons_zero, List.set_cons_succ, i64_w, i32_w]
    rfl
  refine pure_ (i := 11) (N := some 8) (v := ?_) (a' := ?_) #[true, true, true, true, true, true, true, true, true, true, true, true] rfl rfl (by kernel_rfl) (fun _ _ _ h => h) (Or.inl ⟨by rfl, ?_⟩) ?_ ?_
  rotate_left
  · intro w'
    go_simp
    with_reducible rfl
  rotate_left
  · simp only [Act.put, List.setIfInBounds_toArray, List.set_cons_zero, List.set_cons_succ, i64_w, i32_w]
    rfl
  refine done_ (by kernel_rfl) ?_
  obtain ⟨s0, s1, s2, s3⟩ := hHeld
  exact hK _ _ (lou_any s A n c b o xs x p q (w.heap.size) _ _ _ _ _ _ _ _ _ _ _ _ _ _ _ _ _ _ _ _ _ _ _ _ _ _ _ _ _ _ _ _ _ _ _ _ _ _ _ _ _ _ _ _ _ _ _ _ _ _ _ _ _ _ _ _ _ _ _ _ _ _ _ _ _ _ _ _ _ _ _ _ _ _ _ _ _ _ _ _ _ _ _ _ _ _ _ _ _ _ _ _ _ _ _ _ _ _ _ _ _ _ _ _ _ _ _ HLH.out HH.out.1 HH.out.2 w _ s3 s0 s2)
set_option maxHeartbeats 16000000 in
set_option maxRecDepth 100000 in
theorem louder_3 (s : S) (A : Option Addr) (n c b o : Nat) (xs : Nat → Int) (x p : Int)  (hn : n ≤ 9223372036854775807) (hc : n ≤ c) (w : World) (hA : DataAt w A n b o xs) : Calls Try.prog 5 #[.agg (s.cs A n c), iv x, .agg #[iv p, iv p]] w fun e w' => e = .returned (.bool true) ∧ Below w.heap.size w w' := by
  have HLH := Lib.hid (show p ≤ p by omega)
  have m1 : (p < p) = False := eq_false (by omega)
  have B0 : Below w.heap.size w ((w.alloc (Obj.cells (s.cs A n c) 31)).alloc (Obj.cells #[iv p, iv p] 34)) := ((Below.refl _ _).alloc (Nat.le_refl _) _).alloc (by simp) _
  have P0 := Lib.hid (heap_alloc2_old w (Obj.cells (s.cs A n c) 31) (Obj.cells #[iv p, iv p] 34))
  have Q0 := Lib.hid (heap_alloc2_new w (Obj.cells (s.cs A n c) 31) (Obj.cells #[iv p, iv p] 34))
  have D0 := Lib.hid (hA.later B0)
  have HH := Lib.hid (And.intro hn hc)
  clear hA hn hc
  go_enter Try.func5, Try.ntmps5
  go_upto_region 1 with (fail)
  rename_i K hK
  generalize ((w.alloc (Obj.cells (s.cs A n c) 31)).alloc (Obj.cells #[iv p, iv p] 34)) = w0 at *
  refine start_ (n := 12) (S := fun w' => w'.heap[w.heap.size]? = some (.cells (s.cs A n c) 31 (0, 0)) ∧ w'.heap[w.heap.size + 1]? = some (.cells #[iv p, iv p] 34 (0, 0)) ∧ DataAt w' A n b o xs ∧ Below w.heap.size w w') (ds := []) #[false, false, false, false, false, false, false, false, false, false, false, false] (by kernel_rfl) rfl rfl ⟨P0.out, Q0.out, ⟨D0.out.top, D0.out.low, D0.out.cell⟩, B0.drew⟩ (fun hHeld => ?_)
  refine pure_ (i := 0) (N := some 16) (v := ?_) (a' := ?_) #[true, false, false, false, false, false, false, false, false, false, false, false] rfl rfl (by kernel_rfl) (fun _ _ _ h => h) (Or.inl ⟨by rfl, ?_⟩) ?_ ?_
  rotate_left
  · intro w'
    go_simp
    with_reducible rfl
  rotate_left
  · simp only [Act.put, List.setIfInBounds_toArray, List.set_cons_zero, List.set_cons_succ, i64_w, i32_w]
    rfl
  refine pure_ (i := 2) (N := some 18) (v := ?_) (a' := ?_) #[true, false, true, false, false, false, false, false, false, false, false, false] rfl rfl (by kernel_rfl) (fun _ _ _ h => h) (Or.inl ⟨by rfl, ?_⟩) ?_ ?_
  rotate_left
  · intro w'
    go_simp
    with_reducible rfl
  rotate_left
  · simp only [Act.put, List.setIfInBounds_toArray, List.set_cons_zero, List.set_cons_succ, i64_w, i32_w]
    rfl
  refine pure_ (i := 5) (N := some 21) (v := ?_) (a' := ?_) #[true, false, true, false, false, true, false, false, false, false, false, false] rfl rfl (by kernel_rfl) (fun _ _ _ h => h) (Or.inl ⟨by rfl, ?_⟩) ?_ ?_
  rotate_left
  · intro w'
    go_simp
    with_reducible rfl
  rotate_left
  · simp only [Act.put, List.setIfInBounds_toArray, List.set_cons_zero, List.set_cons_succ, i64_w, i32_w]
    rfl
  refine pure_ (i := 7) (N := some 23) (v := ?_) (a' := ?_) #[true, false, true, false, false, true, false, true, false, false, false, false] rfl rfl (by kernel_rfl) (fun _ _ _ h => h) (Or.inl ⟨by rfl, ?_⟩) ?_ ?_
  rotate_left
  · intro w'
    go_simp
    with_reducible rfl
  rotate_left
  · simp only [Act.put, List.setIfInBounds_toArray, List.set_cons_zero, List.set_cons_succ, i64_w, i32_w]
    rfl
  refine take_ (i := 1) (N := some 17) (v := ?_) (a' := ?_) #[true, true, true, false, false, true, false, true, false, false, false, false] rfl rfl (by kernel_rfl) (fun _ _ _ h => h) (Or.inl ⟨by rfl, ?_⟩) hHeld ?_ ?_
  rotate_left
  · rintro w' ⟨s0, s1, s2, s3⟩
    have zc := (bkCell s1 0).trans (show (#[iv p, iv p] : Array Value)[0]? = some (iv p) from rfl)
    clear s0 s1 s2 s3
    go_simp
    with_reducible rfl
  rotate_left
  · simp only [Act.put, List.setIfInBounds_toArray, List.set_cons_zero, List.set_cons_succ, i64_w, i32_w]
    rfl
  refine take_ (i := 3) (N := some 19) (v := ?_) (a' := ?_) #[true, true, true, true, false, true, false, true, false, false, false, false] rfl rfl (by kernel_rfl) (fun _ _ _ h => h) (Or.inl ⟨by rfl, ?_⟩) hHeld ?_ ?_
  rotate_left
  · rintro w' ⟨s0, s1, s2, s3⟩
    have zc := (bkCell s1 1).trans (show (#[iv p, iv p] : Array Value)[1]? = some (iv p) from rfl)
    clear s0 s1 s2 s3
    go_simp
    with_reducible rfl
  rotate_left
  · simp only [Act.put, List.setIfInBounds_toArray, List.set_cons_zero, List.set_cons_succ, i64_w, i32_w]
    rfl
  refine pure_ (i := 4) (N := some 20) (v := ?_) (a' := ?_) #[true, true, true, true, true, true, false, true, false, false, false, false] rfl rfl (by kernel_rfl) (fun _ _ _ h => h) (Or.inl ⟨by rfl, ?_⟩) ?_ ?_
  rotate_left
  · intro w'
    go_simp
    with_reducible rfl
  rotate_left
  · simp only [Act.put, List.setIfInBounds_toArray, List.set_cons_zero, List.set_cons_succ, i64_w, i32_w]
    rfl
  refine pure_ (i := 10) (N := some 7) (v := ?_) (a' := ?_) #[true, true, true, true, true, true, false, true, false, false, true, false] rfl rfl (by kernel_rfl) (fun _ _ _ h => h) (Or.inl ⟨by rfl, ?_⟩) ?_ ?_
  rotate_left
  · intro w'
    go_simp
    with_reducible rfl
  rotate_left
  · simp only [Act.put, List.setIfInBounds_toArray, List.set_cons_zero, List.set_cons_succ, i64_w, i32_w]
    rfl
  refine take_ (i := 6) (N := some 22) (v := ?_) (a' := ?_) #[true, true, true, true, true, true, true, true, false, false, true, false] rfl rfl (by kernel_rfl) (fun _ _ _ h => h) (Or.inl ⟨by rfl, ?_⟩) hHeld ?_ ?_
  rotate_left
  · rintro w' ⟨s0, s1, s2, s3⟩
    have zc := (bkCell s1 0).trans (show (#[iv p, iv p] : Array Value)[0]? = some (iv p) from rfl)
    clear s0 s1 s2 s3
    go_simp
    with_reducible rfl
  rotate_left
  · simp only [Act.put, List.setIfInBounds_toArray, List.set_cons_zero, List.set_cons_succ, i64_w, i32_w]
    rfl
  refine take_ (i := 8) (N := some 24) (v := ?_) (a' := ?_) #[true, true, true, true, true, true, true, true, true, false, true, false] rfl rfl (by kernel_rfl) (fun _ _ _ h => h) (Or.inl ⟨by rfl, ?_⟩) hHeld ?_ ?_
  rotate_left
  · rintro w' ⟨s0, s1, s2, s3⟩
    have zc := (bkCell s1 1).trans (show (#[iv p, iv p] : Array Value)[1]? = some (iv p) from rfl)
    clear s0 s1 s2 s3
    go_simp
    with_reducible rfl
  rotate_left
  · simp only [Act.put, List.setIfInBounds_toArray, List.set_cons_zero, List.set_cons_succ, i64_w, i32_w]
    rfl
  refine pure_ (i := 9) (N := some 25) (v := ?_) (a' := ?_) #[true, true, true, true, true, true, true, true, true, true, true, false] rfl rfl (by kernel_rfl) (fun _ _ _ h => h) (Or.inl ⟨by rfl, ?_⟩) ?_ ?_
  rotate_left
  · intro w'
    go_simp
    with_reducible rfl
  rotate_left
  · simp only [Act.put, List.setIfInBounds_toArray, List.set_cons_zero, List.set_cons_succ, i64_w, i32_w]
    rfl
  refine pure_ (i := 11) (N := some 8) (v := ?_) (a' := ?_) #[true, true, true, true, true, true, true, true, true, true, true, true] rfl rfl (by kernel_rfl) (fun _ _ _ h => h) (Or.inl ⟨by rfl, ?_⟩) ?_ ?_
  rotate_left
  · intro w'
    go_simp
    with_reducible rfl
  rotate_left
  · simp only [Act.put, List.setIfInBounds_toArray, List.set_cons_zero, List.set_cons_succ, i64_w, i32_w]
    rfl
  refine done_ (by kernel_rfl) ?_
  obtain ⟨s0, s1, s2, s3⟩ := hHeld
  exact hK _ _ (lou_any s A n c b o xs x p p (w.heap.size) _ _ _ _ _ _ _ _ _ _ _ _ _ _ _ _ _ _ _ _ _ _ _ _ _ _ _ _ _ _ _ _ _ _ _ _ _ _ _ _ _ _ _ _ _ _ _ _ _ _ _ _ _ _ _ _ _ _ _ _ _ _ _ _ _ _ _ _ _ _ _ _ _ _ _ _ _ _ _ _ _ _ _ _ _ _ _ _ _ _ _ _ _ _ _ _ _ _ _ _ _ _ _ _ _ _ _ HLH.out HH.out.1 HH.out.2 w _ s3 s0 s2)
theorem louder_law (s : S) (A : Option Addr) (n c : Nat) (zs : List Int) (x p q : Int) (w : World) (h : RowOf w A n c zs) : Calls Try.prog 5 #[.agg (s.cs A n c), iv x, .agg #[iv p, iv q]] w fun e w' => e = .returned (.bool true) ∧ Below w.heap.size w w' := by
  obtain ⟨k1, hn, b, o, d1⟩ := dataOf h
  rcases (by omega : q < p ∨ p < q ∨ p = q) with h | h | h
  · exact louder_1 s A n c b o _ x p q h hn k1 w d1
  · exact louder_2 s A n c b o _ x p q h hn k1 w d1
  · subst h
    exact louder_3 s A n c b o _ x p hn k1 w d1
end Go.Proofs.Ytfodpoccjdaaaaa.SX

/- Four operators: what an operator puts out and how it goes on, in the program. -/
import Derived.Test.YtfodpoccjdaaaaaReH
namespace Go.Proofs.Ytfodpoccjdaaaaa.CS
open Go.RowKit Go.Proofs.YtfodpoccjdaaaaaW.PrintLast Go.Proofs.Ytfodpoccjdaaaaa.TX Go.Proofs.Ytfodpoccjdaaaaa.PG
set_option linter.unusedVariables false
set_option linter.unusedSimpArgs false
theorem only_refl (w : World) (g : Option Nat) : w.grownBy w g := ⟨rfl, rfl, rfl, Nat.le_refl _, fun _ _ _ => rfl⟩
theorem only_drewN {a w : World} {row : Option Nat} (h : a.grownBy w row) (n : Nat) : a.grownBy (w.drewN n) row := ⟨h.os, h.tape, h.output, h.size, h.block⟩
theorem only_drew {a w : World} {row : Option Nat} (h : a.grownBy w row) : a.grownBy w.drew row := ⟨h.os, h.tape, h.output, h.size, h.block⟩
theorem only_setCell {a w : World} {g : Nat} (h : a.grownBy w (some g)) {p : Addr} (hp : p.block = g) (u : Value) : a.grownBy (w.setCell p u) (some g) := ⟨h.os, h.tape, h.output, by simpa [World.setCell] using h.size, fun i hi hne => (Below.heap_setCell w p u i (by
    rintro rfl
    exact hne (by rw [hp]))).trans (h.block i hi hne)⟩
/-- a block told by a function -/
def fb_ (F : Nat → Value) (n : Nat) : Array Value := ((List.range n).map F).toArray
theorem fb_get {F : Nat → Value} {n i : Nat} (h : i < n) : (fb_ F n)[i]? = some (F i) := by simp [fb_, h]
theorem fb_size (F : Nat → Value) (n : Nat) : (fb_ F n).size = n := by simp [fb_]
theorem fb_congr {F G : Nat → Value} {n : Nat} (h : ∀ i, i < n → F i = G i) : fb_ F n = fb_ G n := by
  unfold fb_
  congr 1
  exact List.map_congr_left fun i hi => h i (List.mem_range.1 hi)
theorem fb_set {F : Nat → Value} {n : Nat} (i : Nat) (v : Value) : (fb_ F n).setIfInBounds i v = fb_ (fun j => if j = i then v else F j) n := by
  apply Array.ext
  · simp [fb_]
  · intro j h1 h2
    simp only [fb_size] at h2
    rw [Array.getElem_setIfInBounds]
    · simp only [fb_, List.getElem_toArray, List.getElem_map, List.getElem_range]
      by_cases e : i = j
      · subst e; simp
      · rw [if_neg e, if_neg (fun h => e h.symm)]
    · simpa [fb_] using h2
theorem set_same {cs : Array Value} {i : Nat} {v : Value} (h : cs[i]? = some v) : cs.setIfInBounds i v = cs := by
  apply Array.ext
  · simp
  · intro j h1 h2
    rw [Array.getElem_setIfInBounds h2]
    by_cases e : i = j
    · subst e
      rw [if_pos rfl]
      rw [Array.getElem?_eq_getElem h2] at h
      exact (Option.some.inj h).symm
    · rw [if_neg e]
theorem neg_ceil {x : Int} (h : x < 0) : -((-x + 16255) / 16256) = x / 16256 := by omega
theorem and22 (n : Int) : Go.bits .and .i64 n 4194303 = n % 4194304 := by
  have h63 : (BitVec.ofInt 64 4194303).toNat = 2 ^ 22 - 1 := by decide
  have key : (BitVec.ofInt 64 n &&& BitVec.ofInt 64 4194303).toNat = (n % ((2 ^ 64 : Nat) : Int)).toNat % 2 ^ 22 := by
    rw [BitVec.toNat_and, BitVec.toNat_ofInt, h63, Nat.and_two_pow_sub_one_eq_mod]
  show IntKind.i64.wrap ((BitVec.ofInt 64 n &&& BitVec.ofInt 64 4194303).toNat : Nat) = n % 4194304
  rw [key, IntKind.wrap_i64]
  omega
set_option maxHeartbeats 16000000 in
set_option maxRecDepth 100000 in
theorem put_any (o : OP) (ho : o.Ok) (g a : Nat) (ph l m : Int) (hp : 0 ≤ ph ∧ ph < 4194304) (hl : 0 ≤ l ∧ l ≤ 520192) (hm : -100000 ≤ m ∧ m ≤ 100000) (w : World)
    (h1 : w.cell? ⟨g, a + 1, none⟩ = some (iv o.le)) (h6 : w.cell? ⟨g, a + 6, none⟩ = some (iv l)) (h7 : w.cell? ⟨g, a + 7, none⟩ = some (iv ph)) :
    Calls Try.prog 105 #[.pointer (some ⟨g, a, none⟩), iv m] w fun e w' => e = .returned (iv (putV o ph l m)) ∧ Below w.heap.size w w' := by
  have hg : g < w.heap.size := World.block_lt_of_cell? _ _ h1
  obtain ⟨l0, l1⟩ := hl
  obtain ⟨p0, p1⟩ := hp
  obtain ⟨m0, m1⟩ := hm
  have e0 := evl_bd ho l0 l1
  obtain ⟨k0, k1⟩ := ho.2.1
  have q1 : 0 ≤ l / 4096 ∧ l / 4096 ≤ 127 := by omega
  have q2 : 0 ≤ l / 4096 * (127 - o.le) := Int.mul_nonneg q1.1 (by omega)
  have q3 : l / 4096 * (127 - o.le) ≤ 127 * 127 := Int.mul_le_mul q1.2 (by omega) (by omega) (by omega)
  have hpos : 0 ≤ posv ph m ∧ posv ph m < 64 := by unfold posv; omega
  have WC := Lib.hid fun (W : World) => wave_any hpos.1 hpos.2 W
  have wb := wv_bd hpos.1 hpos.2
  have hmul := mul_bd (s := wv (posv ph m) * 128) (e := evl o l) (by omega) (by omega) e0.1 e0.2
  have HE := Lib.hid (show l / 4096 * (127 - o.le) / 127 = evl o l from rfl)
  have HP := Lib.hid (show (ph + 1024 * m) / 65536 % 64 = posv ph m from rfl)
  have HV := Lib.hid (show wv (posv ph m) * 128 * evl o l / 16256 = putV o ph l m from rfl)
  have HC := Lib.hid (And.intro h1 h6)
  have HG := Lib.hid hg
  obtain ⟨w0, w1⟩ := wb
  obtain ⟨e0, e1⟩ := e0
  obtain ⟨v0, v1⟩ := hmul
  obtain ⟨z0, z1⟩ := hpos
  obtain ⟨q0, q1⟩ := q1
  clear h1 h6 hg
  go_enter Try.func105, Try.ntmps105
  go_upto_region 1 with (fail)
  go_upto_region 2 with (go_at_call 29; rw [and63b, HP.out]; (with_reducible refine (WC.out _).mono ?_); rintro e w8 ⟨rfl, hb8⟩; have B8 := Lib.hid hb8; clear hb8)
  have x1 := (B8.out.cell (p := ⟨g, a + 1, none⟩) HG.out).trans HC.out.1
  have x6 := (B8.out.cell (p := ⟨g, a + 6, none⟩) HG.out).trans HC.out.2
  have n1 : wrap64 (l / 4096) = l / 4096 := Pure.w64 (by omega) (by omega)
  have n2 : wrap64 (127 - o.le) = 127 - o.le := Pure.w64 (by omega) (by omega)
  have n3 : wrap64 (l / 4096 * (127 - o.le)) = l / 4096 * (127 - o.le) := Pure.w64 (by omega) (by omega)
  have n4 : wrap64 (evl o l) = evl o l := Pure.w64 (by omega) (by omega)
  have t1 : Int.tdiv l 4096 = l / 4096 := Int.tdiv_eq_ediv_of_nonneg l0
  have t2 : Int.tdiv (l / 4096 * (127 - o.le)) 127 = evl o l := Int.tdiv_eq_ediv_of_nonneg q2
  clear h7 p0 p1 m0 m1
  refine start_ (n := 14) (S := fun w' => w'.cell? ⟨g, a + 1, none⟩ = some (iv o.le) ∧ w'.cell? ⟨g, a + 6, none⟩ = some (iv l) ∧ Below w.heap.size w w') (ds := []) #[false, false, false, false, false, false, false, false, false, false, false, false, false, false] (by kernel_rfl) rfl rfl ⟨x1, x6, B8.out.drew⟩ (fun hHeld => ?_)
  refine pure_ (i := 0) (N := some 18) (v := ?_) (a' := ?_) #[true, false, false, false, false, false, false, false, false, false, false, false, false, false] rfl rfl (by kernel_rfl) (fun _ _ _ h => h) (Or.inl ⟨by rfl, ?_⟩) ?_ ?_
  rotate_left
  · intro w'
    go_simp
    with_reducible rfl
  rotate_left
  · simp only [Act.put, List.setIfInBounds_toArray, List.set_cons_zero, List.set_cons_succ, i64_w, i32_w, t1, n1, n2, n3, t2, n4]
    rfl
  refine pure_ (i := 1) (N := some 19) (v := ?_) (a' := ?_) #[true, true, false, false, false, false, false, false, false, false, false, false, false, false] rfl rfl (by kernel_rfl) (fun _ _ _ h => h) (Or.inl ⟨by rfl, ?_⟩) ?_ ?_
  rotate_left
  · intro w'
    go_simp
    with_reducible rfl
  rotate_left
  · simp only [Act.put, List.setIfInBounds_toArray, List.set_cons_zero, List.set_cons_succ, i64_w, i32_w, t1, n1, n2, n3, t2, n4]
    rfl
  refine pure_ (i := 2) (N := some 20) (v := ?_) (a' := ?_) #[true, true, true, false, false, false, false, false, false, false, false, false, false, false] rfl rfl (by kernel_rfl) (fun _ _ _ h => h) (Or.inl ⟨by rfl, ?_⟩) ?_ ?_
  rotate_left
  · intro w'
    go_simp
    with_reducible rfl
  rotate_left
  · simp only [Act.put, List.setIfInBounds_toArray, List.set_cons_zero, List.set_cons_succ, i64_w, i32_w, t1, n1, n2, n3, t2, n4]
    rfl
  refine pure_ (i := 5) (N := some 23) (v := ?_) (a' := ?_) #[true, true, true, false, false, true, false, false, false, false, false, false, false, false] rfl rfl (by kernel_rfl) (fun _ _ _ h => h) (Or.inl ⟨by rfl, ?_⟩) ?_ ?_
  rotate_left
  · intro w'
    go_simp
    with_reducible rfl
  rotate_left
  · simp only [Act.put, List.setIfInBounds_toArray, List.set_cons_zero, List.set_cons_succ, i64_w, i32_w, t1, n1, n2, n3, t2, n4]
    rfl
  refine pure_ (i := 6) (N := some 24) (v := ?_) (a' := ?_) #[true, true, true, false, false, true, true, false, false, false, false, false, false, false] rfl rfl (by kernel_rfl) (fun _ _ _ h => h) (Or.inl ⟨by rfl, ?_⟩) ?_ ?_
  rotate_left
  · intro w'
    go_simp
    with_reducible rfl
  rotate_left
  · simp only [Act.put, List.setIfInBounds_toArray, List.set_cons_zero, List.set_cons_succ, i64_w, i32_w, t1, n1, n2, n3, t2, n4]
    rfl
  refine pure_ (i := 7) (N := some 25) (v := ?_) (a' := ?_) #[true, true, true, false, false, true, true, true, false, false, false, false, false, false] rfl rfl (by kernel_rfl) (fun _ _ _ h => h) (Or.inl ⟨by rfl, ?_⟩) ?_ ?_
  rotate_left
  · intro w'
    go_simp
    with_reducible rfl
  rotate_left
  · simp only [Act.put, List.setIfInBounds_toArray, List.set_cons_zero, List.set_cons_succ, i64_w, i32_w, t1, n1, n2, n3, t2, n4]
    rfl
  refine pure_ (i := 8) (N := some 26) (v := ?_) (a' := ?_) #[true, true, true, false, false, true, true, true, true, false, false, false, false, false] rfl rfl (by kernel_rfl) (fun _ _ _ h => h) (Or.inl ⟨by rfl, ?_⟩) ?_ ?_
  rotate_left
  · intro w'
    go_simp
    with_reducible rfl
  rotate_left
  · simp only [Act.put, List.setIfInBounds_toArray, List.set_cons_zero, List.set_cons_succ, i64_w, i32_w, t1, n1, n2, n3, t2, n4]
    rfl
  refine take_ (i := 3) (N := some 21) (v := ?_) (a' := ?_) #[true, true, true, true, false, true, true, true, true, false, false, false, false, false] rfl rfl (by kernel_rfl) (fun _ _ _ h => h) (Or.inl ⟨by rfl, ?_⟩) hHeld ?_ ?_
  rotate_left
  · rintro w' ⟨s0, s1, s2⟩
    have zc := s1
    clear s0 s1 s2
    go_simp
    with_reducible rfl
  rotate_left
  · simp only [Act.put, List.setIfInBounds_toArray, List.set_cons_zero, List.set_cons_succ, i64_w, i32_w, t1, n1, n2, n3, t2, n4]
    rfl
  refine pure_ (i := 4) (N := some 22) (v := ?_) (a' := ?_) #[true, true, true, true, true, true, true, true, true, false, false, false, false, false] rfl rfl (by kernel_rfl) (fun _ _ _ h => h) (Or.inl ⟨by rfl, ?_⟩) ?_ ?_
  rotate_left
  · intro w'
    go_simp
    with_reducible rfl
  rotate_left
  · simp only [Act.put, List.setIfInBounds_toArray, List.set_cons_zero, List.set_cons_succ, i64_w, i32_w, t1, n1, n2, n3, t2, n4]
    rfl
  refine take_ (i := 9) (N := some 27) (v := ?_) (a' := ?_) #[true, true, true, true, true, true, true, true, true, true, false, false, false, false] rfl rfl (by kernel_rfl) (fun _ _ _ h => h) (Or.inl ⟨by rfl, ?_⟩) hHeld ?_ ?_
  rotate_left
  · rintro w' ⟨s0, s1, s2⟩
    have zc := s0
    clear s0 s1 s2
    go_simp
    with_reducible rfl
  rotate_left
  · simp only [Act.put, List.setIfInBounds_toArray, List.set_cons_zero, List.set_cons_succ, i64_w, i32_w, t1, n1, n2, n3, t2, n4]
    rfl
  refine pure_ (i := 10) (N := some 28) (v := ?_) (a' := ?_) #[true, true, true, true, true, true, true, true, true, true, true, false, false, false] rfl rfl (by kernel_rfl) (fun _ _ _ h => h) (Or.inl ⟨by rfl, ?_⟩) ?_ ?_
  rotate_left
  · intro w'
    go_simp
    with_reducible rfl
  rotate_left
  · simp only [Act.put, List.setIfInBounds_toArray, List.set_cons_zero, List.set_cons_succ, i64_w, i32_w, t1, n1, n2, n3, t2, n4]
    rfl
  refine pure_ (i := 11) (N := some 29) (v := ?_) (a' := ?_) #[true, true, true, true, true, true, true, true, true, true, true, true, false, false] rfl rfl (by kernel_rfl) (fun _ _ _ h => h) (Or.inl ⟨by rfl, ?_⟩) ?_ ?_
  rotate_left
  · intro w'
    go_simp
    with_reducible rfl
  rotate_left
  · simp only [Act.put, List.setIfInBounds_toArray, List.set_cons_zero, List.set_cons_succ, i64_w, i32_w, t1, n1, n2, n3, t2, n4]
    rfl
  refine pure_ (i := 12) (N := some 30) (v := ?_) (a' := ?_) #[true, true, true, true, true, true, true, true, true, true, true, true, true, false] rfl rfl (by kernel_rfl) (fun _ _ _ h => h) (Or.inl ⟨by rfl, ?_⟩) ?_ ?_
  rotate_left
  · intro w'
    go_simp
    with_reducible rfl
  rotate_left
  · simp only [Act.put, List.setIfInBounds_toArray, List.set_cons_zero, List.set_cons_succ, i64_w, i32_w, t1, n1, n2, n3, t2, n4]
    rfl
  refine pure_ (i := 13) (N := some 6) (v := ?_) (a' := ?_) #[true, true, true, true, true, true, true, true, true, true, true, true, true, true] rfl rfl (by kernel_rfl) (fun _ _ _ h => h) (Or.inl ⟨by rfl, ?_⟩) ?_ ?_
  rotate_left
  · intro w'
    go_simp
    with_reducible rfl
  rotate_left
  · simp only [Act.put, List.setIfInBounds_toArray, List.set_cons_zero, List.set_cons_succ, i64_w, i32_w, t1, n1, n2, n3, t2, n4]
    rfl
  refine done_ (by kernel_rfl) ?_

  clear n1 n2 n3 n4 t1 t2 hHeld x1 x6 q0 q1 q2 q3 l0 l1 HE HP WC
  have B9 := B8.out.drew
  generalize posv ph m = ps at *
  generalize evl o l = ee at *
  generalize wv ps = wa at *
  by_cases hn : wa * 128 * ee < 0
  · have d1 : decide (wa * 128 * ee < 0) = true := decide_eq_true hn
    have hv := Int.neg_mul (wa * 128) ee
    have u0 : 0 ≤ -(wa * 128) * ee := by rw [hv]; omega
    have u1 : -(wa * 128) * ee ≤ 4145280 := by rw [hv]; omega
    have HN := Lib.hid (show -((-(wa * 128) * ee + 16255) / 16256) = putV o ph l m from by rw [hv, neg_ceil hn]; exact HV.out)
    clear hv hn
    go_wp2
    go_ret
    exact ⟨congrArg (fun x => Ending.returned (iv x)) HN.out, B9⟩
  · have d1 : decide (wa * 128 * ee < 0) = false := decide_eq_false hn
    have u0 : 0 ≤ wa * 128 * ee := by omega
    clear hn
    go_wp2
    go_ret
    exact ⟨congrArg (fun x => Ending.returned (iv x)) HV.out, B9⟩
noncomputable def restM : Code := match Try.f106.body with | some (.seq _ b) => b | _ => .skip
set_option maxHeartbeats 16000000 in
set_option maxRecDepth 100000 in
theorem moves2 (o : OP) (ho : o.Ok) (g a : Nat) (ph step : Int) (cs : Array Value) (t : TypeId) (u2 u3 u4 u5 u6 u7 u8 u9 u10 u11 u12 u13 u14 u15 u16 u17 u18 u19 u20 u21 u22 u23 u24 u25 u26 u27 u28 u29 u30 u31 u32 u33 u34 u35 u36 u37 u38 u39 u40 u41 u42 u43 u44 u45 u46 u47 u48 u49 u50 u51 u52 u53 u54 u55 u56 u57 u58 u59 u60 u61 u62 u63 u64 u65 u66 u67 u68 u69 u70 u71 u72 u73 u74 u75 u76 u77 u78 u79 u80 u81 u82 u83 u84 u85 u86 u87 u88 u89 u90 u91 u92 u93 u94 u95 u96 u97 u98 : Value) (hp : 0 ≤ ph ∧ ph < 4194304) (hs : 0 ≤ step ∧ step ≤ 300000000) (w00 w : World) (hb : w.heap[g]? = some (.cells cs t (0, 0))) (h0 : cs[a]? = some (iv o.mu)) (h7 : cs[a + 7]? = some (iv ph)) (hgr : w00.grownBy w (some g)) : restM.wp Try.prog (bodyPost Try.prog Try.f106 (fun e w' => e = .returned (.tuple #[]) ∧ w'.heap[g]? = some (.cells (cs.setIfInBounds (a + 7) (iv (phN o ph step))) t (0, 0)) ∧ w00.grownBy w' (some g))) ⟨#[.pointer (some ⟨g, a, none⟩), iv step, u2, u3, u4, u5, u6, u7, u8, u9, u10, u11, u12, u13, u14, u15, u16, u17, u18, u19, u20, u21, u22, u23, u24, u25, u26, u27, u28, u29, u30, u31, u32, u33, u34, u35, u36, u37, u38, u39, u40, u41, u42, u43, u44, u45, u46, u47, u48, u49, u50, u51, u52, u53, u54, u55, u56, u57, u58, u59, u60, u61, u62, u63, u64, u65, u66, u67, u68, u69, u70, u71, u72, u73, u74, u75, u76, u77, u78, u79, u80, u81, u82, u83, u84, u85, u86, u87, u88, u89, u90, u91, u92, u93, u94, u95, u96, u97, u98], []⟩ w := by
  have x0 := (bkCell hb a).trans h0
  have x7 := (bkCell hb (a + 7)).trans h7
  have f7 := bkFrozen hb (a + 7)
  obtain ⟨p0, p1⟩ := hp
  obtain ⟨s0, s1⟩ := hs
  have by_ := byS_bd ho s0 s1
  obtain ⟨b0, b1⟩ := by_
  have HB := Lib.hid hb
  have HG := Lib.hid hgr
  have HP := Lib.hid (show (ph + byS o step) % 4194304 = phN o ph step from rfl)
  clear hb h0 h7 hgr
  by_cases hm : o.mu = 0
  · have e1 : (o.mu == 0) = true := by simp [hm]
    have HY := Lib.hid (show byS o step = step / 2 from if_pos hm)
    clear hm
    conv => arg 2; whnf
    go_upto_region 9 with (fail)
    rw [← HY.out]
    go_wp2
    go_end0
    rw [and22, HP.out]
    exact ⟨rfl, bkSet HB.out (a + 7) _, only_setCell HG.out rfl _⟩
  · have e1 : (o.mu == 0) = false := by simp [hm]
    have HY := Lib.hid (show byS o step = step * o.mu from if_neg hm)
    have b2 : step * o.mu ≤ 4500000000 := by rw [← HY.out]; exact b1
    have b3 : 0 ≤ step * o.mu := by rw [← HY.out]; exact b0
    clear hm
    conv => arg 2; whnf
    go_upto_region 9 with (fail)
    rw [← HY.out]
    go_wp2
    go_end0
    rw [and22, HP.out]
    exact ⟨rfl, bkSet HB.out (a + 7) _, only_setCell HG.out rfl _⟩
theorem bkDw {w : World} {g : Nat} {o : Obj} (h : w.heap[g]? = some o) : w.drew.heap[g]? = some o := h
set_option maxHeartbeats 16000000 in
set_option maxRecDepth 100000 in
theorem mv_off1 (o : OP) (ho : o.Ok) (g a : Nat) (ph l step : Int) (cs : Array Value) (t : TypeId) (hp : 0 ≤ ph ∧ ph < 4194304) (hs : 0 ≤ step ∧ step ≤ 300000000) (hl : 0 ≤ l ∧ l ≤ 520192) (f : Bool) (hc : 8 * o.re < l) (w : World) (hb : w.heap[g]? = some (.cells cs t (0, 0))) (h0 : cs[a]? = some (iv o.mu)) (h2 : cs[a + 2]? = some (iv o.at_)) (h3 : cs[a + 3]? = some (iv o.de)) (h4 : cs[a + 4]? = some (iv o.su)) (h5 : cs[a + 5]? = some (iv o.re)) (h6 : cs[a + 6]? = some (iv l)) (h7 : cs[a + 7]? = some (iv ph)) (h8 : cs[a + 8]? = some (.bool f)) : Calls Try.prog 106 #[.pointer (some ⟨g, a, none⟩), iv step, .bool false] w fun e w' => e = .returned (.tuple #[]) ∧ w'.heap[g]? = some (.cells (((cs.setIfInBounds (a + 6) (iv (envL o l f false))).setIfInBounds (a + 8) (.bool (envF o l f false))).setIfInBounds (a + 7) (iv (phN o ph step))) t (0, 0)) ∧ w.grownBy w' (some g) := by
  obtain ⟨l0, l1⟩ := hl
  obtain ⟨_, _, ⟨a0, a1⟩, ⟨d0, d1⟩, ⟨s0_, s1_⟩, r0, r1⟩ := id ho
  have HS := Lib.hid (And.intro hp hs)
  have HEL := Lib.hid (show envL o l f false = l - 8 * o.re from by rw [envL_off]; omega)
  have HEF := Lib.hid (show envF o l f false = f from by exact envF_off o l f)
  clear hp hs
  have x8 := (bkCell hb (a + 8)).trans h8
  have HB := Lib.hid hb
  have ST := Lib.hid (moves2 o ho g a ph step ((cs.setIfInBounds (a + 6) (iv (envL o l f false))).setIfInBounds (a + 8) (.bool (envF o l f false))) t)
  have q0 : ((cs.setIfInBounds (a + 6) (iv (envL o l f false))).setIfInBounds (a + 8) (.bool (envF o l f false)))[a]? = some (iv o.mu) := by rw [Array.getElem?_setIfInBounds_ne (by omega), Array.getElem?_setIfInBounds_ne (by omega)]; exact h0
  have q7 : ((cs.setIfInBounds (a + 6) (iv (envL o l f false))).setIfInBounds (a + 8) (.bool (envF o l f false)))[a + 7]? = some (iv ph) := by rw [Array.getElem?_setIfInBounds_ne (by omega), Array.getElem?_setIfInBounds_ne (by omega)]; exact h7
  have HQ := Lib.hid (And.intro q0 q7)
  clear q0 q7 hb
  have n1 : wrap64 (8 * o.re) = 8 * o.re := Pure.w64 (by omega) (by omega)
  have n2 : wrap64 (l - 8 * o.re) = l - 8 * o.re := Pure.w64 (by omega) (by omega)
  have m1 : (8 * o.re < l) = True := eq_true (by omega)
  go_enter Try.func106, Try.ntmps106
  go_upto_region 1 with (fail)
  rename_i K1 hK1 K2 hK2
  go_upto_region 2 with (fail)
  refine start_ (n := 16) (S := fun w' => w'.heap[g]? = some (.cells cs t (0, 0))) (ds := [15]) #[false, false, false, false, false, false, false, false, false, false, false, false, false, false, false, false] (by kernel_rfl) rfl rfl (HB.out) (fun hHeld => ?_)
  refine pure_ (i := 0) (N := some 30) (v := ?_) (a' := ?_) #[true, false, false, false, false, false, false, false, false, false, false, false, false, false, false, false] rfl rfl (by kernel_rfl) (fun _ _ _ h => h) (Or.inl ⟨by rfl, ?_⟩) ?_ ?_
  rotate_left
  · intro w'
    go_simp
    with_reducible rfl
  rotate_left
  · simp only [Act.put, List.setIfInBounds_toArray, List.set_cons_zero, List.set_cons_succ, i64_w, i32_w, n1, n2, m1]
    rfl
  refine pure_ (i := 1) (N := some 31) (v := ?_) (a' := ?_) #[true, true, false, false, false, false, false, false, false, false, false, false, false, false, false, false] rfl rfl (by kernel_rfl) (fun _ _ _ h => h) (Or.inl ⟨by rfl, ?_⟩) ?_ ?_
  rotate_left
  · intro w'
    go_simp
    with_reducible rfl
  rotate_left
  · simp only [Act.put, List.setIfInBounds_toArray, List.set_cons_zero, List.set_cons_succ, i64_w, i32_w, n1, n2, m1]
    rfl
  refine pure_ (i := 2) (N := some 32) (v := ?_) (a' := ?_) #[true, true, true, false, false, false, false, false, false, false, false, false, false, false, false, false] rfl rfl (by kernel_rfl) (fun _ _ _ h => h) (Or.inl ⟨by rfl, ?_⟩) ?_ ?_
  rotate_left
  · intro w'
    go_simp
    with_reducible rfl
  rotate_left
  · simp only [Act.put, List.setIfInBounds_toArray, List.set_cons_zero, List.set_cons_succ, i64_w, i32_w, n1, n2, m1]
    rfl
  refine pure_ (i := 3) (N := some 33) (v := ?_) (a' := ?_) #[true, true, true, true, false, false, false, false, false, false, false, false, false, false, false, false] rfl rfl (by kernel_rfl) (fun _ _ _ h => h) (Or.inl ⟨by rfl, ?_⟩) ?_ ?_
  rotate_left
  · intro w'
    go_simp
    with_reducible rfl
  rotate_left
  · simp only [Act.put, List.setIfInBounds_toArray, List.set_cons_zero, List.set_cons_succ, i64_w, i32_w, n1, n2, m1]
    rfl
  refine pure_ (i := 5) (N := some 35) (v := ?_) (a' := ?_) #[true, true, true, true, false, true, false, false, false, false, false, false, false, false, false, false] rfl rfl (by kernel_rfl) (fun _ _ _ h => h) (Or.inl ⟨by rfl, ?_⟩) ?_ ?_
  rotate_left
  · intro w'
    go_simp
    with_reducible rfl
  rotate_left
  · simp only [Act.put, List.setIfInBounds_toArray, List.set_cons_zero, List.set_cons_succ, i64_w, i32_w, n1, n2, m1]
    rfl
  refine pure_ (i := 6) (N := some 36) (v := ?_) (a' := ?_) #[true, true, true, true, false, true, true, false, false, false, false, false, false, false, false, false] rfl rfl (by kernel_rfl) (fun _ _ _ h => h) (Or.inl ⟨by rfl, ?_⟩) ?_ ?_
  rotate_left
  · intro w'
    go_simp
    with_reducible rfl
  rotate_left
  · simp only [Act.put, List.setIfInBounds_toArray, List.set_cons_zero, List.set_cons_succ, i64_w, i32_w, n1, n2, m1]
    rfl
  refine pure_ (i := 7) (N := some 37) (v := ?_) (a' := ?_) #[true, true, true, true, false, true, true, true, false, false, false, false, false, false, false, false] rfl rfl (by kernel_rfl) (fun _ _ _ h => h) (Or.inl ⟨by rfl, ?_⟩) ?_ ?_
  rotate_left
  · intro w'
    go_simp
    with_reducible rfl
  rotate_left
  · simp only [Act.put, List.setIfInBounds_toArray, List.set_cons_zero, List.set_cons_succ, i64_w, i32_w, n1, n2, m1]
    rfl
  refine pure_ (i := 8) (N := some 38) (v := ?_) (a' := ?_) #[true, true, true, true, false, true, true, true, true, false, false, false, false, false, false, false] rfl rfl (by kernel_rfl) (fun _ _ _ h => h) (Or.inl ⟨by rfl, ?_⟩) ?_ ?_
  rotate_left
  · intro w'
    go_simp
    with_reducible rfl
  rotate_left
  · simp only [Act.put, List.setIfInBounds_toArray, List.set_cons_zero, List.set_cons_succ, i64_w, i32_w, n1, n2, m1]
    rfl
  refine take_ (i := 4) (N := some 34) (v := ?_) (a' := ?_) #[true, true, true, true, true, true, true, true, true, false, false, false, false, false, false, false] rfl rfl (by kernel_rfl) (fun _ _ _ h => h) (Or.inl ⟨by rfl, ?_⟩) hHeld ?_ ?_
  rotate_left
  · intro w' s0
    have zc := (bkCell s0 (a + 6)).trans h6
    clear s0
    go_simp
    with_reducible rfl
  rotate_left
  · simp only [Act.put, List.setIfInBounds_toArray, List.set_cons_zero, List.set_cons_succ, i64_w, i32_w, n1, n2, m1]
    rfl
  refine take_ (i := 9) (N := some 39) (v := ?_) (a' := ?_) #[true, true, true, true, true, true, true, true, true, true, false, false, false, false, false, false] rfl rfl (by kernel_rfl) (fun _ _ _ h => h) (Or.inl ⟨by rfl, ?_⟩) hHeld ?_ ?_
  rotate_left
  · intro w' s0
    have zc := (bkCell s0 (a + 5)).trans h5
    clear s0
    go_simp
    with_reducible rfl
  rotate_left
  · simp only [Act.put, List.setIfInBounds_toArray, List.set_cons_zero, List.set_cons_succ, i64_w, i32_w, n1, n2, m1]
    rfl
  refine pure_ (i := 10) (N := some 40) (v := ?_) (a' := ?_) #[true, true, true, true, true, true, true, true, true, true, true, false, false, false, false, false] rfl rfl (by kernel_rfl) (fun _ _ _ h => h) (Or.inl ⟨by rfl, ?_⟩) ?_ ?_
  rotate_left
  · intro w'
    go_simp
    with_reducible rfl
  rotate_left
  · simp only [Act.put, List.setIfInBounds_toArray, List.set_cons_zero, List.set_cons_succ, i64_w, i32_w, n1, n2, m1]
    rfl
  refine pure_ (i := 11) (N := some 41) (v := ?_) (a' := ?_) #[true, true, true, true, true, true, true, true, true, true, true, true, false, false, false, false] rfl rfl (by kernel_rfl) (fun _ _ _ h => h) (Or.inl ⟨by rfl, ?_⟩) ?_ ?_
  rotate_left
  · intro w'
    go_simp
    with_reducible rfl
  rotate_left
  · simp only [Act.put, List.setIfInBounds_toArray, List.set_cons_zero, List.set_cons_succ, i64_w, i32_w, n1, n2, m1]
    rfl
  refine pure_ (i := 12) (N := some 42) (v := ?_) (a' := ?_) #[true, true, true, true, true, true, true, true, true, true, true, true, true, false, false, false] rfl rfl (by kernel_rfl) (fun _ _ _ h => h) (Or.inl ⟨by rfl, ?_⟩) ?_ ?_
  rotate_left
  · intro w'
    go_simp
    with_reducible rfl
  rotate_left
  · simp only [Act.put, List.setIfInBounds_toArray, List.set_cons_zero, List.set_cons_succ, i64_w, i32_w, n1, n2, m1]
    rfl
  refine pure_ (i := 13) (N := some 43) (v := ?_) (a' := ?_) #[true, true, true, true, true, true, true, true, true, true, true, true, true, true, false, false] rfl rfl (by kernel_rfl) (fun _ _ _ h => h) (Or.inl ⟨by rfl, ?_⟩) ?_ ?_
  rotate_left
  · intro w'
    go_simp
    with_reducible rfl
  rotate_left
  · simp only [Act.put, List.setIfInBounds_toArray, List.set_cons_zero, List.set_cons_succ, i64_w, i32_w, n1, n2, m1]
    rfl
  refine pure_ (i := 14) (N := some 44) (v := ?_) (a' := ?_) #[true, true, true, true, true, true, true, true, true, true, true, true, true, true, true, false] rfl rfl (by kernel_rfl) (fun _ _ _ h => h) (Or.inl ⟨by rfl, ?_⟩) ?_ ?_
  rotate_left
  · intro w'
    go_simp
    with_reducible rfl
  rotate_left
  · simp only [Act.put, List.setIfInBounds_toArray, List.set_cons_zero, List.set_cons_succ, i64_w, i32_w, n1, n2, m1]
    rfl
  refine last_ (i := 15) (N := none) #[true, true, true, true, true, true, true, true, true, true, true, true, true, true, true, true] rfl rfl (by kernel_rfl) (by decide) (fun K hK => ?_)
  have z9 := bkFrozen hHeld (a + 6)
  have c9 := (bkCell hHeld (a + 6)).trans h6
  clear hHeld
  refine skip_ (w1 := ?_) (by rfl) rfl ?_ ?_
  rotate_left
  · go_simp
    rfl
  refine hK.out _ _ ?_
  clear hK K
  refine done_ (by kernel_rfl) ?_
  clear n1 n2 m1
  have hb2 := bkPut (cs' := (cs.setIfInBounds (a + 6) (iv (envL o l f false))).setIfInBounds (a + 8) (.bool (envF o l f false))) HB.out (a + 6) (iv (l - 8 * o.re)) (by rw [HEL.out, HEF.out]; exact (set_same ((Array.getElem?_setIfInBounds_ne (by omega)).trans h8)).symm)
  exact hK1 _ _ (ST.out _ _ _ _ _ _ _ _ _ _ _ _ _ _ _ _ _ _ _ _ _ _ _ _ _ _ _ _ _ _ _ _ _ _ _ _ _ _ _ _ _ _ _ _ _ _ _ _ _ _ _ _ _ _ _ _ _ _ _ _ _ _ _ _ _ _ _ _ _ _ _ _ _ _ _ _ _ _ _ _ _ _ _ _ _ _ _ _ _ _ _ _ _ _ _ _ _ HS.out.1 HS.out.2 w _ (bkDw hb2) HQ.out.1 HQ.out.2 (only_drew (only_setCell (only_refl w _) rfl _)))
set_option maxHeartbeats 16000000 in
set_option maxRecDepth 100000 in
theorem mv_off2 (o : OP) (ho : o.Ok) (g a : Nat) (ph l step : Int) (cs : Array Value) (t : TypeId) (hp : 0 ≤ ph ∧ ph < 4194304) (hs : 0 ≤ step ∧ step ≤ 300000000) (hl : 0 ≤ l ∧ l ≤ 520192) (f : Bool) (hc : l ≤ 8 * o.re) (w : World) (hb : w.heap[g]? = some (.cells cs t (0, 0))) (h0 : cs[a]? = some (iv o.mu)) (h2 : cs[a + 2]? = some (iv o.at_)) (h3 : cs[a + 3]? = some (iv o.de)) (h4 : cs[a + 4]? = some (iv o.su)) (h5 : cs[a + 5]? = some (iv o.re)) (h6 : cs[a + 6]? = some (iv l)) (h7 : cs[a + 7]? = some (iv ph)) (h8 : cs[a + 8]? = some (.bool f)) : Calls Try.prog 106 #[.pointer (some ⟨g, a, none⟩), iv step, .bool false] w fun e w' => e = .returned (.tuple #[]) ∧ w'.heap[g]? = some (.cells (((cs.setIfInBounds (a + 6) (iv (envL o l f false))).setIfInBounds (a + 8) (.bool (envF o l f false))).setIfInBounds (a + 7) (iv (phN o ph step))) t (0, 0)) ∧ w.grownBy w' (some g) := by
  obtain ⟨l0, l1⟩ := hl
  obtain ⟨_, _, ⟨a0, a1⟩, ⟨d0, d1⟩, ⟨s0_, s1_⟩, r0, r1⟩ := id ho
  have HS := Lib.hid (And.intro hp hs)
  have HEL := Lib.hid (show envL o l f false = 0 from by rw [envL_off]; omega)
  have HEF := Lib.hid (show envF o l f false = f from by exact envF_off o l f)
  clear hp hs
  have x8 := (bkCell hb (a + 8)).trans h8
  have HB := Lib.hid hb
  have ST := Lib.hid (moves2 o ho g a ph step ((cs.setIfInBounds (a + 6) (iv (envL o l f false))).setIfInBounds (a + 8) (.bool (envF o l f false))) t)
  have q0 : ((cs.setIfInBounds (a + 6) (iv (envL o l f false))).setIfInBounds (a + 8) (.bool (envF o l f false)))[a]? = some (iv o.mu) := by rw [Array.getElem?_setIfInBounds_ne (by omega), Array.getElem?_setIfInBounds_ne (by omega)]; exact h0
  have q7 : ((cs.setIfInBounds (a + 6) (iv (envL o l f false))).setIfInBounds (a + 8) (.bool (envF o l f false)))[a + 7]? = some (iv ph) := by rw [Array.getElem?_setIfInBounds_ne (by omega), Array.getElem?_setIfInBounds_ne (by omega)]; exact h7
  have HQ := Lib.hid (And.intro q0 q7)
  clear q0 q7 hb
  have n1 : wrap64 (8 * o.re) = 8 * o.re := Pure.w64 (by omega) (by omega)
  have n2 : wrap64 (l - 8 * o.re) = l - 8 * o.re := Pure.w64 (by omega) (by omega)
  have m1 : (8 * o.re < l) = False := eq_false (by omega)
  go_enter Try.func106, Try.ntmps106
  go_upto_region 1 with (fail)
  rename_i K1 hK1 K2 hK2
  go_upto_region 2 with (fail)
  refine start_ (n := 16) (S := fun w' => w'.heap[g]? = some (.cells cs t (0, 0))) (ds := [15]) #[false, false, false, false, false, false, false, false, false, false, false, false, false, false, false, false] (by kernel_rfl) rfl rfl (HB.out) (fun hHeld => ?_)
  refine pure_ (i := 0) (N := some 30) (v := ?_) (a' := ?_) #[true, false, false, false, false, false, false, false, false, false, false, false, false, false, false, false] rfl rfl (by kernel_rfl) (fun _ _ _ h => h) (Or.inl ⟨by rfl, ?_⟩) ?_ ?_
  rotate_left
  · intro w'
    go_simp
    with_reducible rfl
  rotate_left
  · simp only [Act.put, List.setIfInBounds_toArray, List.set_cons_zero, List.set_cons_succ, i64_w, i32_w, n1, n2, m1]
    rfl
  refine pure_ (i := 1) (N := some 31) (v := ?_) (a' := ?_) #[true, true, false, false, false, false, false, false, false, false, false, false, false, false, false, false] rfl rfl (by kernel_rfl) (fun _ _ _ h => h) (Or.inl ⟨by rfl, ?_⟩) ?_ ?_
  rotate_left
  · intro w'
    go_simp
    with_reducible rfl
  rotate_left
  · simp only [Act.put, List.setIfInBounds_toArray, List.set_cons_zero, List.set_cons_succ, i64_w, i32_w, n1, n2, m1]
    rfl
  refine pure_ (i := 2) (N := some 32) (v := ?_) (a' := ?_) #[true, true, true, false, false, false, false, false, false, false, false, false, false, false, false, false] rfl rfl (by kernel_rfl) (fun _ _ _ h => h) (Or.inl ⟨by rfl, ?_⟩) ?_ ?_
  rotate_left
  · intro w'
    go_simp
    with_reducible rfl
  rotate_left
  · simp only [Act.put, List.setIfInBounds_toArray, List.set_cons_zero, List.set_cons_succ, i64_w, i32_w, n1, n2, m1]
    rfl
  refine pure_ (i := 3) (N := some 33) (v := ?_) (a' := ?_) #[true, true, true, true, false, false, false, false, false, false, false, false, false, false, false, false] rfl rfl (by kernel_rfl) (fun _ _ _ h => h) (Or.inl ⟨by rfl, ?_⟩) ?_ ?_
  rotate_left
  · intro w'
    go_simp
    with_reducible rfl
  rotate_left
  · simp only [Act.put, List.setIfInBounds_toArray, List.set_cons_zero, List.set_cons_succ, i64_w, i32_w, n1, n2, m1]
    rfl
  refine pure_ (i := 5) (N := some 35) (v := ?_) (a' := ?_) #[true, true, true, true, false, true, false, false, false, false, false, false, false, false, false, false] rfl rfl (by kernel_rfl) (fun _ _ _ h => h) (Or.inl ⟨by rfl, ?_⟩) ?_ ?_
  rotate_left
  · intro w'
    go_simp
    with_reducible rfl
  rotate_left
  · simp only [Act.put, List.setIfInBounds_toArray, List.set_cons_zero, List.set_cons_succ, i64_w, i32_w, n1, n2, m1]
    rfl
  refine pure_ (i := 6) (N := some 36) (v := ?_) (a' := ?_) #[true, true, true, true, false, true, true, false, false, false, false, false, false, false, false, false] rfl rfl (by kernel_rfl) (fun _ _ _ h => h) (Or.inl ⟨by rfl, ?_⟩) ?_ ?_
  rotate_left
  · intro w'
    go_simp
    with_reducible rfl
  rotate_left
  · simp only [Act.put, List.setIfInBounds_toArray, List.set_cons_zero, List.set_cons_succ, i64_w, i32_w, n1, n2, m1]
    rfl
  refine pure_ (i := 7) (N := some 37) (v := ?_) (a' := ?_) #[true, true, true, true, false, true, true, true, false, false, false, false, false, false, false, false] rfl rfl (by kernel_rfl) (fun _ _ _ h => h) (Or.inl ⟨by rfl, ?_⟩) ?_ ?_
  rotate_left
  · intro w'
    go_simp
    with_reducible rfl
  rotate_left
  · simp only [Act.put, List.setIfInBounds_toArray, List.set_cons_zero, List.set_cons_succ, i64_w, i32_w, n1, n2, m1]
    rfl
  refine pure_ (i := 8) (N := some 38) (v := ?_) (a' := ?_) #[true, true, true, true, false, true, true, true, true, false, false, false, false, false, false, false] rfl rfl (by kernel_rfl) (fun _ _ _ h => h) (Or.inl ⟨by rfl, ?_⟩) ?_ ?_
  rotate_left
  · intro w'
    go_simp
    with_reducible rfl
  rotate_left
  · simp only [Act.put, List.setIfInBounds_toArray, List.set_cons_zero, List.set_cons_succ, i64_w, i32_w, n1, n2, m1]
    rfl
  refine take_ (i := 4) (N := some 34) (v := ?_) (a' := ?_) #[true, true, true, true, true, true, true, true, true, false, false, false, false, false, false, false] rfl rfl (by kernel_rfl) (fun _ _ _ h => h) (Or.inl ⟨by rfl, ?_⟩) hHeld ?_ ?_
  rotate_left
  · intro w' s0
    have zc := (bkCell s0 (a + 6)).trans h6
    clear s0
    go_simp
    with_reducible rfl
  rotate_left
  · simp only [Act.put, List.setIfInBounds_toArray, List.set_cons_zero, List.set_cons_succ, i64_w, i32_w, n1, n2, m1]
    rfl
  refine take_ (i := 9) (N := some 39) (v := ?_) (a' := ?_) #[true, true, true, true, true, true, true, true, true, true, false, false, false, false, false, false] rfl rfl (by kernel_rfl) (fun _ _ _ h => h) (Or.inl ⟨by rfl, ?_⟩) hHeld ?_ ?_
  rotate_left
  · intro w' s0
    have zc := (bkCell s0 (a + 5)).trans h5
    clear s0
    go_simp
    with_reducible rfl
  rotate_left
  · simp only [Act.put, List.setIfInBounds_toArray, List.set_cons_zero, List.set_cons_succ, i64_w, i32_w, n1, n2, m1]
    rfl
  refine pure_ (i := 10) (N := some 40) (v := ?_) (a' := ?_) #[true, true, true, true, true, true, true, true, true, true, true, false, false, false, false, false] rfl rfl (by kernel_rfl) (fun _ _ _ h => h) (Or.inl ⟨by rfl, ?_⟩) ?_ ?_
  rotate_left
  · intro w'
    go_simp
    with_reducible rfl
  rotate_left
  · simp only [Act.put, List.setIfInBounds_toArray, List.set_cons_zero, List.set_cons_succ, i64_w, i32_w, n1, n2, m1]
    rfl
  refine pure_ (i := 11) (N := some 41) (v := ?_) (a' := ?_) #[true, true, true, true, true, true, true, true, true, true, true, true, false, false, false, false] rfl rfl (by kernel_rfl) (fun _ _ _ h => h) (Or.inl ⟨by rfl, ?_⟩) ?_ ?_
  rotate_left
  · intro w'
    go_simp
    with_reducible rfl
  rotate_left
  · simp only [Act.put, List.setIfInBounds_toArray, List.set_cons_zero, List.set_cons_succ, i64_w, i32_w, n1, n2, m1]
    rfl
  refine pure_ (i := 12) (N := some 42) (v := ?_) (a' := ?_) #[true, true, true, true, true, true, true, true, true, true, true, true, true, false, false, false] rfl rfl (by kernel_rfl) (fun _ _ _ h => h) (Or.inl ⟨by rfl, ?_⟩) ?_ ?_
  rotate_left
  · intro w'
    go_simp
    with_reducible rfl
  rotate_left
  · simp only [Act.put, List.setIfInBounds_toArray, List.set_cons_zero, List.set_cons_succ, i64_w, i32_w, n1, n2, m1]
    rfl
  refine pure_ (i := 13) (N := some 43) (v := ?_) (a' := ?_) #[true, true, true, true, true, true, true, true, true, true, true, true, true, true, false, false] rfl rfl (by kernel_rfl) (fun _ _ _ h => h) (Or.inl ⟨by rfl, ?_⟩) ?_ ?_
  rotate_left
  · intro w'
    go_simp
    with_reducible rfl
  rotate_left
  · simp only [Act.put, List.setIfInBounds_toArray, List.set_cons_zero, List.set_cons_succ, i64_w, i32_w, n1, n2, m1]
    rfl
  refine pure_ (i := 14) (N := some 44) (v := ?_) (a' := ?_) #[true, true, true, true, true, true, true, true, true, true, true, true, true, true, true, false] rfl rfl (by kernel_rfl) (fun _ _ _ h => h) (Or.inl ⟨by rfl, ?_⟩) ?_ ?_
  rotate_left
  · intro w'
    go_simp
    with_reducible rfl
  rotate_left
  · simp only [Act.put, List.setIfInBounds_toArray, List.set_cons_zero, List.set_cons_succ, i64_w, i32_w, n1, n2, m1]
    rfl
  refine last_ (i := 15) (N := none) #[true, true, true, true, true, true, true, true, true, true, true, true, true, true, true, true] rfl rfl (by kernel_rfl) (by decide) (fun K hK => ?_)
  have z9 := bkFrozen hHeld (a + 6)
  have c9 := (bkCell hHeld (a + 6)).trans h6
  clear hHeld
  refine skip_ (w1 := ?_) (by rfl) rfl ?_ ?_
  rotate_left
  · go_simp
    rfl
  refine hK.out _ _ ?_
  clear hK K
  refine done_ (by kernel_rfl) ?_
  clear n1 n2 m1
  have hb2 := bkPut (cs' := (cs.setIfInBounds (a + 6) (iv (envL o l f false))).setIfInBounds (a + 8) (.bool (envF o l f false))) HB.out (a + 6) (iv (0)) (by rw [HEL.out, HEF.out]; exact (set_same ((Array.getElem?_setIfInBounds_ne (by omega)).trans h8)).symm)
  exact hK1 _ _ (ST.out _ _ _ _ _ _ _ _ _ _ _ _ _ _ _ _ _ _ _ _ _ _ _ _ _ _ _ _ _ _ _ _ _ _ _ _ _ _ _ _ _ _ _ _ _ _ _ _ _ _ _ _ _ _ _ _ _ _ _ _ _ _ _ _ _ _ _ _ _ _ _ _ _ _ _ _ _ _ _ _ _ _ _ _ _ _ _ _ _ _ _ _ _ _ _ _ _ HS.out.1 HS.out.2 w _ (bkDw hb2) HQ.out.1 HQ.out.2 (only_drew (only_setCell (only_refl w _) rfl _)))
set_option maxHeartbeats 16000000 in
set_option maxRecDepth 100000 in
theorem mv_dn1 (o : OP) (ho : o.Ok) (g a : Nat) (ph l step : Int) (cs : Array Value) (t : TypeId) (hp : 0 ≤ ph ∧ ph < 4194304) (hs : 0 ≤ step ∧ step ≤ 300000000) (hl : 0 ≤ l ∧ l ≤ 520192) (hc : 4096 * o.su < l - 8 * o.de) (w : World) (hb : w.heap[g]? = some (.cells cs t (0, 0))) (h0 : cs[a]? = some (iv o.mu)) (h2 : cs[a + 2]? = some (iv o.at_)) (h3 : cs[a + 3]? = some (iv o.de)) (h4 : cs[a + 4]? = some (iv o.su)) (h5 : cs[a + 5]? = some (iv o.re)) (h6 : cs[a + 6]? = some (iv l)) (h7 : cs[a + 7]? = some (iv ph)) (h8 : cs[a + 8]? = some (.bool true)) : Calls Try.prog 106 #[.pointer (some ⟨g, a, none⟩), iv step, .bool true] w fun e w' => e = .returned (.tuple #[]) ∧ w'.heap[g]? = some (.cells (((cs.setIfInBounds (a + 6) (iv (envL o l true true))).setIfInBounds (a + 8) (.bool (envF o l true true))).setIfInBounds (a + 7) (iv (phN o ph step))) t (0, 0)) ∧ w.grownBy w' (some g) := by
  obtain ⟨l0, l1⟩ := hl
  obtain ⟨_, _, ⟨a0, a1⟩, ⟨d0, d1⟩, ⟨s0_, s1_⟩, r0, r1⟩ := id ho
  have HS := Lib.hid (And.intro hp hs)
  have HEL := Lib.hid (show envL o l true true = l - 8 * o.de from by rw [envL_dn]; omega)
  have HEF := Lib.hid (show envF o l true true = true from by exact envF_dn o l)
  clear hp hs
  have x8 := (bkCell hb (a + 8)).trans h8
  have HB := Lib.hid hb
  have ST := Lib.hid (moves2 o ho g a ph step ((cs.setIfInBounds (a + 6) (iv (envL o l true true))).setIfInBounds (a + 8) (.bool (envF o l true true))) t)
  have q0 : ((cs.setIfInBounds (a + 6) (iv (envL o l true true))).setIfInBounds (a + 8) (.bool (envF o l true true)))[a]? = some (iv o.mu) := by rw [Array.getElem?_setIfInBounds_ne (by omega), Array.getElem?_setIfInBounds_ne (by omega)]; exact h0
  have q7 : ((cs.setIfInBounds (a + 6) (iv (envL o l true true))).setIfInBounds (a + 8) (.bool (envF o l true true)))[a + 7]? = some (iv ph) := by rw [Array.getElem?_setIfInBounds_ne (by omega), Array.getElem?_setIfInBounds_ne (by omega)]; exact h7
  have HQ := Lib.hid (And.intro q0 q7)
  clear q0 q7 hb
  have n1 : wrap64 (4096 * o.su) = 4096 * o.su := Pure.w64 (by omega) (by omega)
  have n2 : wrap64 (8 * o.de) = 8 * o.de := Pure.w64 (by omega) (by omega)
  have n3 : wrap64 (l - 8 * o.de) = l - 8 * o.de := Pure.w64 (by omega) (by omega)
  have m1 : (4096 * o.su < l - 8 * o.de) = True := eq_true (by omega)
  go_enter Try.func106, Try.ntmps106
  go_upto_region 1 with (fail)
  rename_i K1 hK1 K2 hK2
  go_upto_region 0 with (fail)
  refine start_ (n := 22) (S := fun w' => w'.heap[g]? = some (.cells cs t (0, 0))) (ds := [21]) #[false, false, false, false, false, false, false, false, false, false, false, false, false, false, false, false, false, false, false, false, false, false] (by kernel_rfl) rfl rfl (HB.out) (fun hHeld => ?_)
  refine pure_ (i := 0) (N := some 6) (v := ?_) (a' := ?_) #[true, false, false, false, false, false, false, false, false, false, false, false, false, false, false, false, false, false, false, false, false, false] rfl rfl (by kernel_rfl) (fun _ _ _ h => h) (Or.inl ⟨by rfl, ?_⟩) ?_ ?_
  rotate_left
  · intro w'
    go_simp
    with_reducible rfl
  rotate_left
  · simp only [Act.put, List.setIfInBounds_toArray, List.set_cons_zero, List.set_cons_succ, i64_w, i32_w, n1, n2, n3, m1]
    rfl
  refine pure_ (i := 1) (N := some 7) (v := ?_) (a' := ?_) #[true, true, false, false, false, false, false, false, false, false, false, false, false, false, false, false, false, false, false, false, false, false] rfl rfl (by kernel_rfl) (fun _ _ _ h => h) (Or.inl ⟨by rfl, ?_⟩) ?_ ?_
  rotate_left
  · intro w'
    go_simp
    with_reducible rfl
  rotate_left
  · simp only [Act.put, List.setIfInBounds_toArray, List.set_cons_zero, List.set_cons_succ, i64_w, i32_w, n1, n2, n3, m1]
    rfl
  refine pure_ (i := 2) (N := some 8) (v := ?_) (a' := ?_) #[true, true, true, false, false, false, false, false, false, false, false, false, false, false, false, false, false, false, false, false, false, false] rfl rfl (by kernel_rfl) (fun _ _ _ h => h) (Or.inl ⟨by rfl, ?_⟩) ?_ ?_
  rotate_left
  · intro w'
    go_simp
    with_reducible rfl
  rotate_left
  · simp only [Act.put, List.setIfInBounds_toArray, List.set_cons_zero, List.set_cons_succ, i64_w, i32_w, n1, n2, n3, m1]
    rfl
  refine pure_ (i := 3) (N := some 9) (v := ?_) (a' := ?_) #[true, true, true, true, false, false, false, false, false, false, false, false, false, false, false, false, false, false, false, false, false, false] rfl rfl (by kernel_rfl) (fun _ _ _ h => h) (Or.inl ⟨by rfl, ?_⟩) ?_ ?_
  rotate_left
  · intro w'
    go_simp
    with_reducible rfl
  rotate_left
  · simp only [Act.put, List.setIfInBounds_toArray, List.set_cons_zero, List.set_cons_succ, i64_w, i32_w, n1, n2, n3, m1]
    rfl
  refine pure_ (i := 4) (N := some 10) (v := ?_) (a' := ?_) #[true, true, true, true, true, false, false, false, false, false, false, false, false, false, false, false, false, false, false, false, false, false] rfl rfl (by kernel_rfl) (fun _ _ _ h => h) (Or.inl ⟨by rfl, ?_⟩) ?_ ?_
  rotate_left
  · intro w'
    go_simp
    with_reducible rfl
  rotate_left
  · simp only [Act.put, List.setIfInBounds_toArray, List.set_cons_zero, List.set_cons_succ, i64_w, i32_w, n1, n2, n3, m1]
    rfl
  refine pure_ (i := 7) (N := some 13) (v := ?_) (a' := ?_) #[true, true, true, true, true, false, false, true, false, false, false, false, false, false, false, false, false, false, false, false, false, false] rfl rfl (by kernel_rfl) (fun _ _ _ h => h) (Or.inl ⟨by rfl, ?_⟩) ?_ ?_
  rotate_left
  · intro w'
    go_simp
    with_reducible rfl
  rotate_left
  · simp only [Act.put, List.setIfInBounds_toArray, List.set_cons_zero, List.set_cons_succ, i64_w, i32_w, n1, n2, n3, m1]
    rfl
  refine pure_ (i := 8) (N := some 14) (v := ?_) (a' := ?_) #[true, true, true, true, true, false, false, true, true, false, false, false, false, false, false, false, false, false, false, false, false, false] rfl rfl (by kernel_rfl) (fun _ _ _ h => h) (Or.inl ⟨by rfl, ?_⟩) ?_ ?_
  rotate_left
  · intro w'
    go_simp
    with_reducible rfl
  rotate_left
  · simp only [Act.put, List.setIfInBounds_toArray, List.set_cons_zero, List.set_cons_succ, i64_w, i32_w, n1, n2, n3, m1]
    rfl
  refine pure_ (i := 9) (N := some 15) (v := ?_) (a' := ?_) #[true, true, true, true, true, false, false, true, true, true, false, false, false, false, false, false, false, false, false, false, false, false] rfl rfl (by kernel_rfl) (fun _ _ _ h => h) (Or.inl ⟨by rfl, ?_⟩) ?_ ?_
  rotate_left
  · intro w'
    go_simp
    with_reducible rfl
  rotate_left
  · simp only [Act.put, List.setIfInBounds_toArray, List.set_cons_zero, List.set_cons_succ, i64_w, i32_w, n1, n2, n3, m1]
    rfl
  refine pure_ (i := 11) (N := some 17) (v := ?_) (a' := ?_) #[true, true, true, true, true, false, false, true, true, true, false, true, false, false, false, false, false, false, false, false, false, false] rfl rfl (by kernel_rfl) (fun _ _ _ h => h) (Or.inl ⟨by rfl, ?_⟩) ?_ ?_
  rotate_left
  · intro w'
    go_simp
    with_reducible rfl
  rotate_left
  · simp only [Act.put, List.setIfInBounds_toArray, List.set_cons_zero, List.set_cons_succ, i64_w, i32_w, n1, n2, n3, m1]
    rfl
  refine pure_ (i := 12) (N := some 18) (v := ?_) (a' := ?_) #[true, true, true, true, true, false, false, true, true, true, false, true, true, false, false, false, false, false, false, false, false, false] rfl rfl (by kernel_rfl) (fun _ _ _ h => h) (Or.inl ⟨by rfl, ?_⟩) ?_ ?_
  rotate_left
  · intro w'
    go_simp
    with_reducible rfl
  rotate_left
  · simp only [Act.put, List.setIfInBounds_toArray, List.set_cons_zero, List.set_cons_succ, i64_w, i32_w, n1, n2, n3, m1]
    rfl
  refine pure_ (i := 13) (N := some 19) (v := ?_) (a' := ?_) #[true, true, true, true, true, false, false, true, true, true, false, true, true, true, false, false, false, false, false, false, false, false] rfl rfl (by kernel_rfl) (fun _ _ _ h => h) (Or.inl ⟨by rfl, ?_⟩) ?_ ?_
  rotate_left
  · intro w'
    go_simp
    with_reducible rfl
  rotate_left
  · simp only [Act.put, List.setIfInBounds_toArray, List.set_cons_zero, List.set_cons_succ, i64_w, i32_w, n1, n2, n3, m1]
    rfl
  refine pure_ (i := 14) (N := some 20) (v := ?_) (a' := ?_) #[true, true, true, true, true, false, false, true, true, true, false, true, true, true, true, false, false, false, false, false, false, false] rfl rfl (by kernel_rfl) (fun _ _ _ h => h) (Or.inl ⟨by rfl, ?_⟩) ?_ ?_
  rotate_left
  · intro w'
    go_simp
    with_reducible rfl
  rotate_left
  · simp only [Act.put, List.setIfInBounds_toArray, List.set_cons_zero, List.set_cons_succ, i64_w, i32_w, n1, n2, n3, m1]
    rfl
  refine take_ (i := 5) (N := some 11) (v := ?_) (a' := ?_) #[true, true, true, true, true, true, false, true, true, true, false, true, true, true, true, false, false, false, false, false, false, false] rfl rfl (by kernel_rfl) (fun _ _ _ h => h) (Or.inl ⟨by rfl, ?_⟩) hHeld ?_ ?_
  rotate_left
  · intro w' s0
    have zc := (bkCell s0 (a + 4)).trans h4
    clear s0
    go_simp
    with_reducible rfl
  rotate_left
  · simp only [Act.put, List.setIfInBounds_toArray, List.set_cons_zero, List.set_cons_succ, i64_w, i32_w, n1, n2, n3, m1]
    rfl
  refine pure_ (i := 6) (N := some 12) (v := ?_) (a' := ?_) #[true, true, true, true, true, true, true, true, true, true, false, true, true, true, true, false, false, false, false, false, false, false] rfl rfl (by kernel_rfl) (fun _ _ _ h => h) (Or.inl ⟨by rfl, ?_⟩) ?_ ?_
  rotate_left
  · intro w'
    go_simp
    with_reducible rfl
  rotate_left
  · simp only [Act.put, List.setIfInBounds_toArray, List.set_cons_zero, List.set_cons_succ, i64_w, i32_w, n1, n2, n3, m1]
    rfl
  refine take_ (i := 10) (N := some 16) (v := ?_) (a' := ?_) #[true, true, true, true, true, true, true, true, true, true, true, true, true, true, true, false, false, false, false, false, false, false] rfl rfl (by kernel_rfl) (fun _ _ _ h => h) (Or.inl ⟨by rfl, ?_⟩) hHeld ?_ ?_
  rotate_left
  · intro w' s0
    have zc := (bkCell s0 (a + 6)).trans h6
    clear s0
    go_simp
    with_reducible rfl
  rotate_left
  · simp only [Act.put, List.setIfInBounds_toArray, List.set_cons_zero, List.set_cons_succ, i64_w, i32_w, n1, n2, n3, m1]
    rfl
  refine take_ (i := 15) (N := some 21) (v := ?_) (a' := ?_) #[true, true, true, true, true, true, true, true, true, true, true, true, true, true, true, true, false, false, false, false, false, false] rfl rfl (by kernel_rfl) (fun _ _ _ h => h) (Or.inl ⟨by rfl, ?_⟩) hHeld ?_ ?_
  rotate_left
  · intro w' s0
    have zc := (bkCell s0 (a + 3)).trans h3
    clear s0
    go_simp
    with_reducible rfl
  rotate_left
  · simp only [Act.put, List.setIfInBounds_toArray, List.set_cons_zero, List.set_cons_succ, i64_w, i32_w, n1, n2, n3, m1]
    rfl
  refine pure_ (i := 16) (N := some 22) (v := ?_) (a' := ?_) #[true, true, true, true, true, true, true, true, true, true, true, true, true, true, true, true, true, false, false, false, false, false] rfl rfl (by kernel_rfl) (fun _ _ _ h => h) (Or.inl ⟨by rfl, ?_⟩) ?_ ?_
  rotate_left
  · intro w'
    go_simp
    with_reducible rfl
  rotate_left
  · simp only [Act.put, List.setIfInBounds_toArray, List.set_cons_zero, List.set_cons_succ, i64_w, i32_w, n1, n2, n3, m1]
    rfl
  refine pure_ (i := 17) (N := some 23) (v := ?_) (a' := ?_) #[true, true, true, true, true, true, true, true, true, true, true, true, true, true, true, true, true, true, false, false, false, false] rfl rfl (by kernel_rfl) (fun _ _ _ h => h) (Or.inl ⟨by rfl, ?_⟩) ?_ ?_
  rotate_left
  · intro w'
    go_simp
    with_reducible rfl
  rotate_left
  · simp only [Act.put, List.setIfInBounds_toArray, List.set_cons_zero, List.set_cons_succ, i64_w, i32_w, n1, n2, n3, m1]
    rfl
  refine pure_ (i := 18) (N := some 24) (v := ?_) (a' := ?_) #[true, true, true, true, true, true, true, true, true, true, true, true, true, true, true, true, true, true, true, false, false, false] rfl rfl (by kernel_rfl) (fun _ _ _ h => h) (Or.inl ⟨by rfl, ?_⟩) ?_ ?_
  rotate_left
  · intro w'
    go_simp
    with_reducible rfl
  rotate_left
  · simp only [Act.put, List.setIfInBounds_toArray, List.set_cons_zero, List.set_cons_succ, i64_w, i32_w, n1, n2, n3, m1]
    rfl
  refine pure_ (i := 19) (N := some 25) (v := ?_) (a' := ?_) #[true, true, true, true, true, true, true, true, true, true, true, true, true, true, true, true, true, true, true, true, false, false] rfl rfl (by kernel_rfl) (fun _ _ _ h => h) (Or.inl ⟨by rfl, ?_⟩) ?_ ?_
  rotate_left
  · intro w'
    go_simp
    with_reducible rfl
  rotate_left
  · simp only [Act.put, List.setIfInBounds_toArray, List.set_cons_zero, List.set_cons_succ, i64_w, i32_w, n1, n2, n3, m1]
    rfl
  refine pure_ (i := 20) (N := some 26) (v := ?_) (a' := ?_) #[true, true, true, true, true, true, true, true, true, true, true, true, true, true, true, true, true, true, true, true, true, false] rfl rfl (by kernel_rfl) (fun _ _ _ h => h) (Or.inl ⟨by rfl, ?_⟩) ?_ ?_
  rotate_left
  · intro w'
    go_simp
    with_reducible rfl
  rotate_left
  · simp only [Act.put, List.setIfInBounds_toArray, List.set_cons_zero, List.set_cons_succ, i64_w, i32_w, n1, n2, n3, m1]
    rfl
  refine last_ (i := 21) (N := none) #[true, true, true, true, true, true, true, true, true, true, true, true, true, true, true, true, true, true, true, true, true, true] rfl rfl (by kernel_rfl) (by decide) (fun K hK => ?_)
  have z9 := bkFrozen hHeld (a + 6)
  have c9 := (bkCell hHeld (a + 6)).trans h6
  clear hHeld
  refine skip_ (w1 := ?_) (by rfl) rfl ?_ ?_
  rotate_left
  · go_simp
    rfl
  refine hK.out _ _ ?_
  clear hK K
  refine done_ (by kernel_rfl) ?_
  clear n1 n2 n3 m1
  have hb2 := bkPut (cs' := (cs.setIfInBounds (a + 6) (iv (envL o l true true))).setIfInBounds (a + 8) (.bool (envF o l true true))) HB.out (a + 6) (iv (l - 8 * o.de)) (by rw [HEL.out, HEF.out]; exact (set_same ((Array.getElem?_setIfInBounds_ne (by omega)).trans h8)).symm)
  exact hK1 _ _ (ST.out _ _ _ _ _ _ _ _ _ _ _ _ _ _ _ _ _ _ _ _ _ _ _ _ _ _ _ _ _ _ _ _ _ _ _ _ _ _ _ _ _ _ _ _ _ _ _ _ _ _ _ _ _ _ _ _ _ _ _ _ _ _ _ _ _ _ _ _ _ _ _ _ _ _ _ _ _ _ _ _ _ _ _ _ _ _ _ _ _ _ _ _ _ _ _ _ _ HS.out.1 HS.out.2 w _ (bkDw hb2) HQ.out.1 HQ.out.2 (only_drew (only_setCell (only_refl w _) rfl _)))
set_option maxHeartbeats 16000000 in
set_option maxRecDepth 100000 in
theorem mv_dn2 (o : OP) (ho : o.Ok) (g a : Nat) (ph l step : Int) (cs : Array Value) (t : TypeId) (hp : 0 ≤ ph ∧ ph < 4194304) (hs : 0 ≤ step ∧ step ≤ 300000000) (hl : 0 ≤ l ∧ l ≤ 520192) (hc : l - 8 * o.de ≤ 4096 * o.su) (w : World) (hb : w.heap[g]? = some (.cells cs t (0, 0))) (h0 : cs[a]? = some (iv o.mu)) (h2 : cs[a + 2]? = some (iv o.at_)) (h3 : cs[a + 3]? = some (iv o.de)) (h4 : cs[a + 4]? = some (iv o.su)) (h5 : cs[a + 5]? = some (iv o.re)) (h6 : cs[a + 6]? = some (iv l)) (h7 : cs[a + 7]? = some (iv ph)) (h8 : cs[a + 8]? = some (.bool true)) : Calls Try.prog 106 #[.pointer (some ⟨g, a, none⟩), iv step, .bool true] w fun e w' => e = .returned (.tuple #[]) ∧ w'.heap[g]? = some (.cells (((cs.setIfInBounds (a + 6) (iv (envL o l true true))).setIfInBounds (a + 8) (.bool (envF o l true true))).setIfInBounds (a + 7) (iv (phN o ph step))) t (0, 0)) ∧ w.grownBy w' (some g) := by
  obtain ⟨l0, l1⟩ := hl
  obtain ⟨_, _, ⟨a0, a1⟩, ⟨d0, d1⟩, ⟨s0_, s1_⟩, r0, r1⟩ := id ho
  have HS := Lib.hid (And.intro hp hs)
  have HEL := Lib.hid (show envL o l true true = 4096 * o.su from by rw [envL_dn]; omega)
  have HEF := Lib.hid (show envF o l true true = true from by exact envF_dn o l)
  clear hp hs
  have x8 := (bkCell hb (a + 8)).trans h8
  have HB := Lib.hid hb
  have ST := Lib.hid (moves2 o ho g a ph step ((cs.setIfInBounds (a + 6) (iv (envL o l true true))).setIfInBounds (a + 8) (.bool (envF o l true true))) t)
  have q0 : ((cs.setIfInBounds (a + 6) (iv (envL o l true true))).setIfInBounds (a + 8) (.bool (envF o l true true)))[a]? = some (iv o.mu) := by rw [Array.getElem?_setIfInBounds_ne (by omega), Array.getElem?_setIfInBounds_ne (by omega)]; exact h0
  have q7 : ((cs.setIfInBounds (a + 6) (iv (envL o l true true))).setIfInBounds (a + 8) (.bool (envF o l true true)))[a + 7]? = some (iv ph) := by rw [Array.getElem?_setIfInBounds_ne (by omega), Array.getElem?_setIfInBounds_ne (by omega)]; exact h7
  have HQ := Lib.hid (And.intro q0 q7)
  clear q0 q7 hb
  have n1 : wrap64 (4096 * o.su) = 4096 * o.su := Pure.w64 (by omega) (by omega)
  have n2 : wrap64 (8 * o.de) = 8 * o.de := Pure.w64 (by omega) (by omega)
  have n3 : wrap64 (l - 8 * o.de) = l - 8 * o.de := Pure.w64 (by omega) (by omega)
  have m1 : (4096 * o.su < l - 8 * o.de) = False := eq_false (by omega)
  go_enter Try.func106, Try.ntmps106
  go_upto_region 1 with (fail)
  rename_i K1 hK1 K2 hK2
  go_upto_region 0 with (fail)
  refine start_ (n := 22) (S := fun w' => w'.heap[g]? = some (.cells cs t (0, 0))) (ds := [21]) #[false, false, false, false, false, false, false, false, false, false, false, false, false, false, false, false, false, false, false, false, false, false] (by kernel_rfl) rfl rfl (HB.out) (fun hHeld => ?_)
  refine pure_ (i := 0) (N := some 6) (v := ?_) (a' := ?_) #[true, false, false, false, false, false, false, false, false, false, false, false, false, false, false, false, false, false, false, false, false, false] rfl rfl (by kernel_rfl) (fun _ _ _ h => h) (Or.inl ⟨by rfl, ?_⟩) ?_ ?_
  rotate_left
  · intro w'
    go_simp
    with_reducible rfl
  rotate_left
  · simp only [Act.put, List.setIfInBounds_toArray, List.set_cons_zero, List.set_cons_succ, i64_w, i32_w, n1, n2, n3, m1]
    rfl
  refine pure_ (i := 1) (N := some 7) (v := ?_) (a' := ?_) #[true, true, false, false, false, false, false, false, false, false, false, false, false, false, false, false, false, false, false, false, false, false] rfl rfl (by kernel_rfl) (fun _ _ _ h => h) (Or.inl ⟨by rfl, ?_⟩) ?_ ?_
  rotate_left
  · intro w'
    go_simp
    with_reducible rfl
  rotate_left
  · simp only [Act.put, List.setIfInBounds_toArray, List.set_cons_zero, List.set_cons_succ, i64_w, i32_w, n1, n2, n3, m1]
    rfl
  refine pure_ (i := 2) (N := some 8) (v := ?_) (a' := ?_) #[true, true, true, false, false, false, false, false, false, false, false, false, false, false, false, false, false, false, false, false, false, false] rfl rfl (by kernel_rfl) (fun _ _ _ h => h) (Or.inl ⟨by rfl, ?_⟩) ?_ ?_
  rotate_left
  · intro w'
    go_simp
    with_reducible rfl
  rotate_left
  · simp only [Act.put, List.setIfInBounds_toArray, List.set_cons_zero, List.set_cons_succ, i64_w, i32_w, n1, n2, n3, m1]
    rfl
  refine pure_ (i := 3) (N := some 9) (v := ?_) (a' := ?_) #[true, true, true, true, false, false, false, false, false, false, false, false, false, false, false, false, false, false, false, false, false, false] rfl rfl (by kernel_rfl) (fun _ _ _ h => h) (Or.inl ⟨by rfl, ?_⟩) ?_ ?_
  rotate_left
  · intro w'
    go_simp
    with_reducible rfl
  rotate_left
  · simp only [Act.put, List.setIfInBounds_toArray, List.set_cons_zero, List.set_cons_succ, i64_w, i32_w, n1, n2, n3, m1]
    rfl
  refine pure_ (i := 4) (N := some 10) (v := ?_) (a' := ?_) #[true, true, true, true, true, false, false, false, false, false, false, false, false, false, false, false, false, false, false, false, false, false] rfl rfl (by kernel_rfl) (fun _ _ _ h => h) (Or.inl ⟨by rfl, ?_⟩) ?_ ?_
  rotate_left
  · intro w'
    go_simp
    with_reducible rfl
  rotate_left
  · simp only [Act.put, List.setIfInBounds_toArray, List.set_cons_zero, List.set_cons_succ, i64_w, i32_w, n1, n2, n3, m1]
    rfl
  refine pure_ (i := 7) (N := some 13) (v := ?_) (a' := ?_) #[true, true, true, true, true, false, false, true, false, false, false, false, false, false, false, false, false, false, false, false, false, false] rfl rfl (by kernel_rfl) (fun _ _ _ h => h) (Or.inl ⟨by rfl, ?_⟩) ?_ ?_
  rotate_left
  · intro w'
    go_simp
    with_reducible rfl
  rotate_left
  · simp only [Act.put, List.setIfInBounds_toArray, List.set_cons_zero, List.set_cons_succ, i64_w, i32_w, n1, n2, n3, m1]
    rfl
  refine pure_ (i := 8) (N := some 14) (v := ?_) (a' := ?_) #[true, true, true, true, true, false, false, true, true, false, false, false, false, false, false, false, false, false, false, false, false, false] rfl rfl (by kernel_rfl) (fun _ _ _ h => h) (Or.inl ⟨by rfl, ?_⟩) ?_ ?_
  rotate_left
  · intro w'
    go_simp
    with_reducible rfl
  rotate_left
  · simp only [Act.put, List.setIfInBounds_toArray, List.set_cons_zero, List.set_cons_succ, i64_w, i32_w, n1, n2, n3, m1]
    rfl
  refine pure_ (i := 9) (N := some 15) (v := ?_) (a' := ?_) #[true, true, true, true, true, false, false, true, true, true, false, false, false, false, false, false, false, false, false, false, false, false] rfl rfl (by kernel_rfl) (fun _ _ _ h => h) (Or.inl ⟨by rfl, ?_⟩) ?_ ?_
  rotate_left
  · intro w'
    go_simp
    with_reducible rfl
  rotate_left
  · simp only [Act.put, List.setIfInBounds_toArray, List.set_cons_zero, List.set_cons_succ, i64_w, i32_w, n1, n2, n3, m1]
    rfl
  refine pure_ (i := 11) (N := some 17) (v := ?_) (a' := ?_) #[true, true, true, true, true, false, false, true, true, true, false, true, false, false, false, false, false, false, false, false, false, false] rfl rfl (by kernel_rfl) (fun _ _ _ h => h) (Or.inl ⟨by rfl, ?_⟩) ?_ ?_
  rotate_left
  · intro w'
    go_simp
    with_reducible rfl
  rotate_left
  · simp only [Act.put, List.setIfInBounds_toArray, List.set_cons_zero, List.set_cons_succ, i64_w, i32_w, n1, n2, n3, m1]
    rfl
  refine pure_ (i := 12) (N := some 18) (v := ?_) (a' := ?_) #[true, true, true, true, true, false, false, true, true, true, false, true, true, false, false, false, false, false, false, false, false, false] rfl rfl (by kernel_rfl) (fun _ _ _ h => h) (Or.inl ⟨by rfl, ?_⟩) ?_ ?_
  rotate_left
  · intro w'
    go_simp
    with_reducible rfl
  rotate_left
  · simp only [Act.put, List.setIfInBounds_toArray, List.set_cons_zero, List.set_cons_succ, i64_w, i32_w, n1, n2, n3, m1]
    rfl
  refine pure_ (i := 13) (N := some 19) (v := ?_) (a' := ?_) #[true, true, true, true, true, false, false, true, true, true, false, true, true, true, false, false, false, false, false, false, false, false] rfl rfl (by kernel_rfl) (fun _ _ _ h => h) (Or.inl ⟨by rfl, ?_⟩) ?_ ?_
  rotate_left
  · intro w'
    go_simp
    with_reducible rfl
  rotate_left
  · simp only [Act.put, List.setIfInBounds_toArray, List.set_cons_zero, List.set_cons_succ, i64_w, i32_w, n1, n2, n3, m1]
    rfl
  refine pure_ (i := 14) (N := some 20) (v := ?_) (a' := ?_) #[true, true, true, true, true, false, false, true, true, true, false, true, true, true, true, false, false, false, false, false, false, false] rfl rfl (by kernel_rfl) (fun _ _ _ h => h) (Or.inl ⟨by rfl, ?_⟩) ?_ ?_
  rotate_left
  · intro w'
    go_simp
    with_reducible rfl
  rotate_left
  · simp only [Act.put, List.setIfInBounds_toArray, List.set_cons_zero, List.set_cons_succ, i64_w, i32_w, n1, n2, n3, m1]
    rfl
  refine take_ (i := 5) (N := some 11) (v := ?_) (a' := ?_) #[true, true, true, true, true, true, false, true, true, true, false, true, true, true, true, false, false, false, false, false, false, false] rfl rfl (by kernel_rfl) (fun _ _ _ h => h) (Or.inl ⟨by rfl, ?_⟩) hHeld ?_ ?_
  rotate_left
  · intro w' s0
    have zc := (bkCell s0 (a + 4)).trans h4
    clear s0
    go_simp
    with_reducible rfl
  rotate_left
  · simp only [Act.put, List.setIfInBounds_toArray, List.set_cons_zero, List.set_cons_succ, i64_w, i32_w, n1, n2, n3, m1]
    rfl
  refine pure_ (i := 6) (N := some 12) (v := ?_) (a' := ?_) #[true, true, true, true, true, true, true, true, true, true, false, true, true, true, true, false, false, false, false, false, false, false] rfl rfl (by kernel_rfl) (fun _ _ _ h => h) (Or.inl ⟨by rfl, ?_⟩) ?_ ?_
  rotate_left
  · intro w'
    go_simp
    with_reducible rfl
  rotate_left
  · simp only [Act.put, List.setIfInBounds_toArray, List.set_cons_zero, List.set_cons_succ, i64_w, i32_w, n1, n2, n3, m1]
    rfl
  refine take_ (i := 10) (N := some 16) (v := ?_) (a' := ?_) #[true, true, true, true, true, true, true, true, true, true, true, true, true, true, true, false, false, false, false, false, false, false] rfl rfl (by kernel_rfl) (fun _ _ _ h => h) (Or.inl ⟨by rfl, ?_⟩) hHeld ?_ ?_
  rotate_left
  · intro w' s0
    have zc := (bkCell s0 (a + 6)).trans h6
    clear s0
    go_simp
    with_reducible rfl
  rotate_left
  · simp only [Act.put, List.setIfInBounds_toArray, List.set_cons_zero, List.set_cons_succ, i64_w, i32_w, n1, n2, n3, m1]
    rfl
  refine take_ (i := 15) (N := some 21) (v := ?_) (a' := ?_) #[true, true, true, true, true, true, true, true, true, true, true, true, true, true, true, true, false, false, false, false, false, false] rfl rfl (by kernel_rfl) (fun _ _ _ h => h) (Or.inl ⟨by rfl, ?_⟩) hHeld ?_ ?_
  rotate_left
  · intro w' s0
    have zc := (bkCell s0 (a + 3)).trans h3
    clear s0
    go_simp
    with_reducible rfl
  rotate_left
  · simp only [Act.put, List.setIfInBounds_toArray, List.set_cons_zero, List.set_cons_succ, i64_w, i32_w, n1, n2, n3, m1]
    rfl
  refine pure_ (i := 16) (N := some 22) (v := ?_) (a' := ?_) #[true, true, true, true, true, true, true, true, true, true, true, true, true, true, true, true, true, false, false, false, false, false] rfl rfl (by kernel_rfl) (fun _ _ _ h => h) (Or.inl ⟨by rfl, ?_⟩) ?_ ?_
  rotate_left
  · intro w'
    go_simp
    with_reducible rfl
  rotate_left
  · simp only [Act.put, List.setIfInBounds_toArray, List.set_cons_zero, List.set_cons_succ, i64_w, i32_w, n1, n2, n3, m1]
    rfl
  refine pure_ (i := 17) (N := some 23) (v := ?_) (a' := ?_) #[true, true, true, true, true, true, true, true, true, true, true, true, true, true, true, true, true, true, false, false, false, false] rfl rfl (by kernel_rfl) (fun _ _ _ h => h) (Or.inl ⟨by rfl, ?_⟩) ?_ ?_
  rotate_left
  · intro w'
    go_simp
    with_reducible rfl
  rotate_left
  · simp only [Act.put, List.setIfInBounds_toArray, List.set_cons_zero, List.set_cons_succ, i64_w, i32_w, n1, n2, n3, m1]
    rfl
  refine pure_ (i := 18) (N := some 24) (v := ?_) (a' := ?_) #[true, true, true, true, true, true, true, true, true, true, true, true, true, true, true, true, true, true, true, false, false, false] rfl rfl (by kernel_rfl) (fun _ _ _ h => h) (Or.inl ⟨by rfl, ?_⟩) ?_ ?_
  rotate_left
  · intro w'
    go_simp
    with_reducible rfl
  rotate_left
  · simp only [Act.put, List.setIfInBounds_toArray, List.set_cons_zero, List.set_cons_succ, i64_w, i32_w, n1, n2, n3, m1]
    rfl
  refine pure_ (i := 19) (N := some 25) (v := ?_) (a' := ?_) #[true, true, true, true, true, true, true, true, true, true, true, true, true, true, true, true, true, true, true, true, false, false] rfl rfl (by kernel_rfl) (fun _ _ _ h => h) (Or.inl ⟨by rfl, ?_⟩) ?_ ?_
  rotate_left
  · intro w'
    go_simp
    with_reducible rfl
  rotate_left
  · simp only [Act.put, List.setIfInBounds_toArray, List.set_cons_zero, List.set_cons_succ, i64_w, i32_w, n1, n2, n3, m1]
    rfl
  refine pure_ (i := 20) (N := some 26) (v := ?_) (a' := ?_) #[true, true, true, true, true, true, true, true, true, true, true, true, true, true, true, true, true, true, true, true, true, false] rfl rfl (by kernel_rfl) (fun _ _ _ h => h) (Or.inl ⟨by rfl, ?_⟩) ?_ ?_
  rotate_left
  · intro w'
    go_simp
    with_reducible rfl
  rotate_left
  · simp only [Act.put, List.setIfInBounds_toArray, List.set_cons_zero, List.set_cons_succ, i64_w, i32_w, n1, n2, n3, m1]
    rfl
  refine last_ (i := 21) (N := none) #[true, true, true, true, true, true, true, true, true, true, true, true, true, true, true, true, true, true, true, true, true, true] rfl rfl (by kernel_rfl) (by decide) (fun K hK => ?_)
  have z9 := bkFrozen hHeld (a + 6)
  have c9 := (bkCell hHeld (a + 6)).trans h6
  clear hHeld
  refine skip_ (w1 := ?_) (by rfl) rfl ?_ ?_
  rotate_left
  · go_simp
    rfl
  refine hK.out _ _ ?_
  clear hK K
  refine done_ (by kernel_rfl) ?_
  clear n1 n2 n3 m1
  have hb2 := bkPut (cs' := (cs.setIfInBounds (a + 6) (iv (envL o l true true))).setIfInBounds (a + 8) (.bool (envF o l true true))) HB.out (a + 6) (iv (4096 * o.su)) (by rw [HEL.out, HEF.out]; exact (set_same ((Array.getElem?_setIfInBounds_ne (by omega)).trans h8)).symm)
  exact hK1 _ _ (ST.out _ _ _ _ _ _ _ _ _ _ _ _ _ _ _ _ _ _ _ _ _ _ _ _ _ _ _ _ _ _ _ _ _ _ _ _ _ _ _ _ _ _ _ _ _ _ _ _ _ _ _ _ _ _ _ _ _ _ _ _ _ _ _ _ _ _ _ _ _ _ _ _ _ _ _ _ _ _ _ _ _ _ _ _ _ _ _ _ _ _ _ _ _ _ _ _ _ HS.out.1 HS.out.2 w _ (bkDw hb2) HQ.out.1 HQ.out.2 (only_drew (only_setCell (only_refl w _) rfl _)))
set_option maxHeartbeats 16000000 in
set_option maxRecDepth 100000 in
theorem mv_up1 (o : OP) (ho : o.Ok) (g a : Nat) (ph l step : Int) (cs : Array Value) (t : TypeId) (hp : 0 ≤ ph ∧ ph < 4194304) (hs : 0 ≤ step ∧ step ≤ 300000000) (hl : 0 ≤ l ∧ l ≤ 520192) (hc : l + 64 * o.at_ < 520192) (w : World) (hb : w.heap[g]? = some (.cells cs t (0, 0))) (h0 : cs[a]? = some (iv o.mu)) (h2 : cs[a + 2]? = some (iv o.at_)) (h3 : cs[a + 3]? = some (iv o.de)) (h4 : cs[a + 4]? = some (iv o.su)) (h5 : cs[a + 5]? = some (iv o.re)) (h6 : cs[a + 6]? = some (iv l)) (h7 : cs[a + 7]? = some (iv ph)) (h8 : cs[a + 8]? = some (.bool false)) : Calls Try.prog 106 #[.pointer (some ⟨g, a, none⟩), iv step, .bool true] w fun e w' => e = .returned (.tuple #[]) ∧ w'.heap[g]? = some (.cells (((cs.setIfInBounds (a + 6) (iv (envL o l false true))).setIfInBounds (a + 8) (.bool (envF o l false true))).setIfInBounds (a + 7) (iv (phN o ph step))) t (0, 0)) ∧ w.grownBy w' (some g) := by
  obtain ⟨l0, l1⟩ := hl
  obtain ⟨_, _, ⟨a0, a1⟩, ⟨d0, d1⟩, ⟨s0_, s1_⟩, r0, r1⟩ := id ho
  have HS := Lib.hid (And.intro hp hs)
  have HEL := Lib.hid (show envL o l false true = l + 64 * o.at_ from by rw [envL_up]; omega)
  have HEF := Lib.hid (show envF o l false true = false from by rw [envF_up]; exact decide_eq_false (by omega))
  clear hp hs
  have x8 := (bkCell hb (a + 8)).trans h8
  have HB := Lib.hid hb
  have ST := Lib.hid (moves2 o ho g a ph step ((cs.setIfInBounds (a + 6) (iv (envL o l false true))).setIfInBounds (a + 8) (.bool (envF o l false true))) t)
  have q0 : ((cs.setIfInBounds (a + 6) (iv (envL o l false true))).setIfInBounds (a + 8) (.bool (envF o l false true)))[a]? = some (iv o.mu) := by rw [Array.getElem?_setIfInBounds_ne (by omega), Array.getElem?_setIfInBounds_ne (by omega)]; exact h0
  have q7 : ((cs.setIfInBounds (a + 6) (iv (envL o l false true))).setIfInBounds (a + 8) (.bool (envF o l false true)))[a + 7]? = some (iv ph) := by rw [Array.getElem?_setIfInBounds_ne (by omega), Array.getElem?_setIfInBounds_ne (by omega)]; exact h7
  have HQ := Lib.hid (And.intro q0 q7)
  clear q0 q7 hb
  have n1 : wrap64 (64 * o.at_) = 64 * o.at_ := Pure.w64 (by omega) (by omega)
  have n2 : wrap64 (l + 64 * o.at_) = l + 64 * o.at_ := Pure.w64 (by omega) (by omega)
  have m1 : (l + 64 * o.at_ < 520192) = True := eq_true (by omega)
  go_enter Try.func106, Try.ntmps106
  go_upto_region 1 with (fail)
  rename_i K1 hK1 K2 hK2
  go_upto_region 4 with (fail)
  refine start_ (n := 16) (S := fun w' => w'.heap[g]? = some (.cells cs t (0, 0))) (ds := [15]) #[false, false, false, false, false, false, false, false, false, false, false, false, false, false, false, false] (by kernel_rfl) rfl rfl (HB.out) (fun hHeld => ?_)
  refine pure_ (i := 0) (N := some 51) (v := ?_) (a' := ?_) #[true, false, false, false, false, false, false, false, false, false, false, false, false, false, false, false] rfl rfl (by kernel_rfl) (fun _ _ _ h => h) (Or.inl ⟨by rfl, ?_⟩) ?_ ?_
  rotate_left
  · intro w'
    go_simp
    with_reducible rfl
  rotate_left
  · simp only [Act.put, List.setIfInBounds_toArray, List.set_cons_zero, List.set_cons_succ, i64_w, i32_w, n1, n2, m1]
    rfl
  refine pure_ (i := 1) (N := some 52) (v := ?_) (a' := ?_) #[true, true, false, false, false, false, false, false, false, false, false, false, false, false, false, false] rfl rfl (by kernel_rfl) (fun _ _ _ h => h) (Or.inl ⟨by rfl, ?_⟩) ?_ ?_
  rotate_left
  · intro w'
    go_simp
    with_reducible rfl
  rotate_left
  · simp only [Act.put, List.setIfInBounds_toArray, List.set_cons_zero, List.set_cons_succ, i64_w, i32_w, n1, n2, m1]
    rfl
  refine pure_ (i := 2) (N := some 53) (v := ?_) (a' := ?_) #[true, true, true, false, false, false, false, false, false, false, false, false, false, false, false, false] rfl rfl (by kernel_rfl) (fun _ _ _ h => h) (Or.inl ⟨by rfl, ?_⟩) ?_ ?_
  rotate_left
  · intro w'
    go_simp
    with_reducible rfl
  rotate_left
  · simp only [Act.put, List.setIfInBounds_toArray, List.set_cons_zero, List.set_cons_succ, i64_w, i32_w, n1, n2, m1]
    rfl
  refine pure_ (i := 3) (N := some 54) (v := ?_) (a' := ?_) #[true, true, true, true, false, false, false, false, false, false, false, false, false, false, false, false] rfl rfl (by kernel_rfl) (fun _ _ _ h => h) (Or.inl ⟨by rfl, ?_⟩) ?_ ?_
  rotate_left
  · intro w'
    go_simp
    with_reducible rfl
  rotate_left
  · simp only [Act.put, List.setIfInBounds_toArray, List.set_cons_zero, List.set_cons_succ, i64_w, i32_w, n1, n2, m1]
    rfl
  refine pure_ (i := 5) (N := some 56) (v := ?_) (a' := ?_) #[true, true, true, true, false, true, false, false, false, false, false, false, false, false, false, false] rfl rfl (by kernel_rfl) (fun _ _ _ h => h) (Or.inl ⟨by rfl, ?_⟩) ?_ ?_
  rotate_left
  · intro w'
    go_simp
    with_reducible rfl
  rotate_left
  · simp only [Act.put, List.setIfInBounds_toArray, List.set_cons_zero, List.set_cons_succ, i64_w, i32_w, n1, n2, m1]
    rfl
  refine pure_ (i := 6) (N := some 57) (v := ?_) (a' := ?_) #[true, true, true, true, false, true, true, false, false, false, false, false, false, false, false, false] rfl rfl (by kernel_rfl) (fun _ _ _ h => h) (Or.inl ⟨by rfl, ?_⟩) ?_ ?_
  rotate_left
  · intro w'
    go_simp
    with_reducible rfl
  rotate_left
  · simp only [Act.put, List.setIfInBounds_toArray, List.set_cons_zero, List.set_cons_succ, i64_w, i32_w, n1, n2, m1]
    rfl
  refine pure_ (i := 7) (N := some 58) (v := ?_) (a' := ?_) #[true, true, true, true, false, true, true, true, false, false, false, false, false, false, false, false] rfl rfl (by kernel_rfl) (fun _ _ _ h => h) (Or.inl ⟨by rfl, ?_⟩) ?_ ?_
  rotate_left
  · intro w'
    go_simp
    with_reducible rfl
  rotate_left
  · simp only [Act.put, List.setIfInBounds_toArray, List.set_cons_zero, List.set_cons_succ, i64_w, i32_w, n1, n2, m1]
    rfl
  refine pure_ (i := 8) (N := some 59) (v := ?_) (a' := ?_) #[true, true, true, true, false, true, true, true, true, false, false, false, false, false, false, false] rfl rfl (by kernel_rfl) (fun _ _ _ h => h) (Or.inl ⟨by rfl, ?_⟩) ?_ ?_
  rotate_left
  · intro w'
    go_simp
    with_reducible rfl
  rotate_left
  · simp only [Act.put, List.setIfInBounds_toArray, List.set_cons_zero, List.set_cons_succ, i64_w, i32_w, n1, n2, m1]
    rfl
  refine take_ (i := 4) (N := some 55) (v := ?_) (a' := ?_) #[true, true, true, true, true, true, true, true, true, false, false, false, false, false, false, false] rfl rfl (by kernel_rfl) (fun _ _ _ h => h) (Or.inl ⟨by rfl, ?_⟩) hHeld ?_ ?_
  rotate_left
  · intro w' s0
    have zc := (bkCell s0 (a + 6)).trans h6
    clear s0
    go_simp
    with_reducible rfl
  rotate_left
  · simp only [Act.put, List.setIfInBounds_toArray, List.set_cons_zero, List.set_cons_succ, i64_w, i32_w, n1, n2, m1]
    rfl
  refine take_ (i := 9) (N := some 60) (v := ?_) (a' := ?_) #[true, true, true, true, true, true, true, true, true, true, false, false, false, false, false, false] rfl rfl (by kernel_rfl) (fun _ _ _ h => h) (Or.inl ⟨by rfl, ?_⟩) hHeld ?_ ?_
  rotate_left
  · intro w' s0
    have zc := (bkCell s0 (a + 2)).trans h2
    clear s0
    go_simp
    with_reducible rfl
  rotate_left
  · simp only [Act.put, List.setIfInBounds_toArray, List.set_cons_zero, List.set_cons_succ, i64_w, i32_w, n1, n2, m1]
    rfl
  refine pure_ (i := 10) (N := some 61) (v := ?_) (a' := ?_) #[true, true, true, true, true, true, true, true, true, true, true, false, false, false, false, false] rfl rfl (by kernel_rfl) (fun _ _ _ h => h) (Or.inl ⟨by rfl, ?_⟩) ?_ ?_
  rotate_left
  · intro w'
    go_simp
    with_reducible rfl
  rotate_left
  · simp only [Act.put, List.setIfInBounds_toArray, List.set_cons_zero, List.set_cons_succ, i64_w, i32_w, n1, n2, m1]
    rfl
  refine pure_ (i := 11) (N := some 62) (v := ?_) (a' := ?_) #[true, true, true, true, true, true, true, true, true, true, true, true, false, false, false, false] rfl rfl (by kernel_rfl) (fun _ _ _ h => h) (Or.inl ⟨by rfl, ?_⟩) ?_ ?_
  rotate_left
  · intro w'
    go_simp
    with_reducible rfl
  rotate_left
  · simp only [Act.put, List.setIfInBounds_toArray, List.set_cons_zero, List.set_cons_succ, i64_w, i32_w, n1, n2, m1]
    rfl
  refine pure_ (i := 12) (N := some 63) (v := ?_) (a' := ?_) #[true, true, true, true, true, true, true, true, true, true, true, true, true, false, false, false] rfl rfl (by kernel_rfl) (fun _ _ _ h => h) (Or.inl ⟨by rfl, ?_⟩) ?_ ?_
  rotate_left
  · intro w'
    go_simp
    with_reducible rfl
  rotate_left
  · simp only [Act.put, List.setIfInBounds_toArray, List.set_cons_zero, List.set_cons_succ, i64_w, i32_w, n1, n2, m1]
    rfl
  refine pure_ (i := 13) (N := some 64) (v := ?_) (a' := ?_) #[true, true, true, true, true, true, true, true, true, true, true, true, true, true, false, false] rfl rfl (by kernel_rfl) (fun _ _ _ h => h) (Or.inl ⟨by rfl, ?_⟩) ?_ ?_
  rotate_left
  · intro w'
    go_simp
    with_reducible rfl
  rotate_left
  · simp only [Act.put, List.setIfInBounds_toArray, List.set_cons_zero, List.set_cons_succ, i64_w, i32_w, n1, n2, m1]
    rfl
  refine pure_ (i := 14) (N := some 65) (v := ?_) (a' := ?_) #[true, true, true, true, true, true, true, true, true, true, true, true, true, true, true, false] rfl rfl (by kernel_rfl) (fun _ _ _ h => h) (Or.inl ⟨by rfl, ?_⟩) ?_ ?_
  rotate_left
  · intro w'
    go_simp
    with_reducible rfl
  rotate_left
  · simp only [Act.put, List.setIfInBounds_toArray, List.set_cons_zero, List.set_cons_succ, i64_w, i32_w, n1, n2, m1]
    rfl
  refine last_ (i := 15) (N := none) #[true, true, true, true, true, true, true, true, true, true, true, true, true, true, true, true] rfl rfl (by kernel_rfl) (by decide) (fun K hK => ?_)
  have z9 := bkFrozen hHeld (a + 6)
  have c9 := (bkCell hHeld (a + 6)).trans h6
  clear hHeld
  refine skip_ (w1 := ?_) (by rfl) rfl ?_ ?_
  rotate_left
  · go_simp
    rfl
  refine hK.out _ _ ?_
  clear hK K
  refine done_ (by kernel_rfl) ?_
  clear n1 n2 m1
  have hb2 := bkPut (cs' := cs.setIfInBounds (a + 6) (iv (l + 64 * o.at_))) HB.out (a + 6) (iv (l + 64 * o.at_)) rfl
  have x6 := bkCell (bkDw hb2) (a + 6)
  rw [Array.getElem?_setIfInBounds_self_of_lt (Array.getElem?_eq_some_iff.1 h6).1] at x6
  have y8 := (bkCell (bkDw hb2) (a + 8)).trans ((Array.getElem?_setIfInBounds_ne (by omega)).trans h8)
  have f8 := bkFrozen (bkDw hb2) (a + 8)
  have HB2 := Lib.hid (bkDw hb2)
  clear hb2 x8
  generalize hW : (w.setCell ⟨g, a + 6, none⟩ (.int .i64 (l + 64 * o.at_))).drew = w1 at *
  have hf : (cs.setIfInBounds (a + 6) (iv (l + 64 * o.at_))).setIfInBounds (a + 8) (.bool false) = (cs.setIfInBounds (a + 6) (iv (envL o l false true))).setIfInBounds (a + 8) (.bool (envF o l false true)) := by rw [HEL.out, HEF.out]
  have HF := Lib.hid hf
  have HGR := Lib.hid (show w.grownBy w1 (some g) from hW ▸ only_drew (only_setCell (only_refl w _) rfl _))
  have HK1 := Lib.hid hK1
  have e1 : ((l + 64 * o.at_ : Int) == 520192) = false := by simp; omega
  clear hf hW hK1 h0 h2 h3 h4 h5 h6 h7 h8
  go_wp2
  exact HK1.out _ _ (ST.out _ _ _ _ _ _ _ _ _ _ _ _ _ _ _ _ _ _ _ _ _ _ _ _ _ _ _ _ _ _ _ _ _ _ _ _ _ _ _ _ _ _ _ _ _ _ _ _ _ _ _ _ _ _ _ _ _ _ _ _ _ _ _ _ _ _ _ _ _ _ _ _ _ _ _ _ _ _ _ _ _ _ _ _ _ _ _ _ _ _ _ _ _ _ _ _ _ HS.out.1 HS.out.2 w _ (bkPut HB2.out (a + 8) (.bool false) HF.out) HQ.out.1 HQ.out.2 (only_setCell HGR.out rfl _))
set_option maxHeartbeats 16000000 in
set_option maxRecDepth 100000 in
theorem mv_up2 (o : OP) (ho : o.Ok) (g a : Nat) (ph l step : Int) (cs : Array Value) (t : TypeId) (hp : 0 ≤ ph ∧ ph < 4194304) (hs : 0 ≤ step ∧ step ≤ 300000000) (hl : 0 ≤ l ∧ l ≤ 520192) (hc : 520192 ≤ l + 64 * o.at_) (w : World) (hb : w.heap[g]? = some (.cells cs t (0, 0))) (h0 : cs[a]? = some (iv o.mu)) (h2 : cs[a + 2]? = some (iv o.at_)) (h3 : cs[a + 3]? = some (iv o.de)) (h4 : cs[a + 4]? = some (iv o.su)) (h5 : cs[a + 5]? = some (iv o.re)) (h6 : cs[a + 6]? = some (iv l)) (h7 : cs[a + 7]? = some (iv ph)) (h8 : cs[a + 8]? = some (.bool false)) : Calls Try.prog 106 #[.pointer (some ⟨g, a, none⟩), iv step, .bool true] w fun e w' => e = .returned (.tuple #[]) ∧ w'.heap[g]? = some (.cells (((cs.setIfInBounds (a + 6) (iv (envL o l false true))).setIfInBounds (a + 8) (.bool (envF o l false true))).setIfInBounds (a + 7) (iv (phN o ph step))) t (0, 0)) ∧ w.grownBy w' (some g) := by
  obtain ⟨l0, l1⟩ := hl
  obtain ⟨_, _, ⟨a0, a1⟩, ⟨d0, d1⟩, ⟨s0_, s1_⟩, r0, r1⟩ := id ho
  have HS := Lib.hid (And.intro hp hs)
  have HEL := Lib.hid (show envL o l false true = 520192 from by rw [envL_up]; omega)
  have HEF := Lib.hid (show envF o l false true = true from by rw [envF_up]; exact decide_eq_true (by omega))
  clear hp hs
  have x8 := (bkCell hb (a + 8)).trans h8
  have HB := Lib.hid hb
  have ST := Lib.hid (moves2 o ho g a ph step ((cs.setIfInBounds (a + 6) (iv (envL o l false true))).setIfInBounds (a + 8) (.bool (envF o l false true))) t)
  have q0 : ((cs.setIfInBounds (a + 6) (iv (envL o l false true))).setIfInBounds (a + 8) (.bool (envF o l false true)))[a]? = some (iv o.mu) := by rw [Array.getElem?_setIfInBounds_ne (by omega), Array.getElem?_setIfInBounds_ne (by omega)]; exact h0
  have q7 : ((cs.setIfInBounds (a + 6) (iv (envL o l false true))).setIfInBounds (a + 8) (.bool (envF o l false true)))[a + 7]? = some (iv ph) := by rw [Array.getElem?_setIfInBounds_ne (by omega), Array.getElem?_setIfInBounds_ne (by omega)]; exact h7
  have HQ := Lib.hid (And.intro q0 q7)
  clear q0 q7 hb
  have n1 : wrap64 (64 * o.at_) = 64 * o.at_ := Pure.w64 (by omega) (by omega)
  have n2 : wrap64 (l + 64 * o.at_) = l + 64 * o.at_ := Pure.w64 (by omega) (by omega)
  have m1 : (l + 64 * o.at_ < 520192) = False := eq_false (by omega)
  go_enter Try.func106, Try.ntmps106
  go_upto_region 1 with (fail)
  rename_i K1 hK1 K2 hK2
  go_upto_region 4 with (fail)
  refine start_ (n := 16) (S := fun w' => w'.heap[g]? = some (.cells cs t (0, 0))) (ds := [15]) #[false, false, false, false, false, false, false, false, false, false, false, false, false, false, false, false] (by kernel_rfl) rfl rfl (HB.out) (fun hHeld => ?_)
  refine pure_ (i := 0) (N := some 51) (v := ?_) (a' := ?_) #[true, false, false, false, false, false, false, false, false, false, false, false, false, false, false, false] rfl rfl (by kernel_rfl) (fun _ _ _ h => h) (Or.inl ⟨by rfl, ?_⟩) ?_ ?_
  rotate_left
  · intro w'
    go_simp
    with_reducible rfl
  rotate_left
  · simp only [Act.put, List.setIfInBounds_toArray, List.set_cons_zero, List.set_cons_succ, i64_w, i32_w, n1, n2, m1]
    rfl
  refine pure_ (i := 1) (N := some 52) (v := ?_) (a' := ?_) #[true, true, false, false, false, false, false, false, false, false, false, false, false, false, false, false] rfl rfl (by kernel_rfl) (fun _ _ _ h => h) (Or.inl ⟨by rfl, ?_⟩) ?_ ?_
  rotate_left
  · intro w'
    go_simp
    with_reducible rfl
  rotate_left
  · simp only [Act.put, List.setIfInBounds_toArray, List.set_cons_zero, List.set_cons_succ, i64_w, i32_w, n1, n2, m1]
    rfl
  refine pure_ (i := 2) (N := some 53) (v := ?_) (a' := ?_) #[true, true, true, false, false, false, false, false, false, false, false, false, false, false, false, false] rfl rfl (by kernel_rfl) (fun _ _ _ h => h) (Or.inl ⟨by rfl, ?_⟩) ?_ ?_
  rotate_left
  · intro w'
    go_simp
    with_reducible rfl
  rotate_left
  · simp only [Act.put, List.setIfInBounds_toArray, List.set_cons_zero, List.set_cons_succ, i64_w, i32_w, n1, n2, m1]
    rfl
  refine pure_ (i := 3) (N := some 54) (v := ?_) (a' := ?_) #[true, true, true, true, false, false, false, false, false, false, false, false, false, false, false, false] rfl rfl (by kernel_rfl) (fun _ _ _ h => h) (Or.inl ⟨by rfl, ?_⟩) ?_ ?_
  rotate_left
  · intro w'
    go_simp
    with_reducible rfl
  rotate_left
  · simp only [Act.put, List.setIfInBounds_toArray, List.set_cons_zero, List.set_cons_succ, i64_w, i32_w, n1, n2, m1]
    rfl
  refine pure_ (i := 5) (N := some 56) (v := ?_) (a' := ?_) #[true, true, true, true, false, true, false, false, false, false, false, false, false, false, false, false] rfl rfl (by kernel_rfl) (fun _ _ _ h => h) (Or.inl ⟨by rfl, ?_⟩) ?_ ?_
  rotate_left
  · intro w'
    go_simp
    with_reducible rfl
  rotate_left
  · simp only [Act.put, List.setIfInBounds_toArray, List.set_cons_zero, List.set_cons_succ, i64_w, i32_w, n1, n2, m1]
    rfl
  refine pure_ (i := 6) (N := some 57) (v := ?_) (a' := ?_) #[true, true, true, true, false, true, true, false, false, false, false, false, false, false, false, false] rfl rfl (by kernel_rfl) (fun _ _ _ h => h) (Or.inl ⟨by rfl, ?_⟩) ?_ ?_
  rotate_left
  · intro w'
    go_simp
    with_reducible rfl
  rotate_left
  · simp only [Act.put, List.setIfInBounds_toArray, List.set_cons_zero, List.set_cons_succ, i64_w, i32_w, n1, n2, m1]
    rfl
  refine pure_ (i := 7) (N := some 58) (v := ?_) (a' := ?_) #[true, true, true, true, false, true, true, true, false, false, false, false, false, false, false, false] rfl rfl (by kernel_rfl) (fun _ _ _ h => h) (Or.inl ⟨by rfl, ?_⟩) ?_ ?_
  rotate_left
  · intro w'
    go_simp
    with_reducible rfl
  rotate_left
  · simp only [Act.put, List.setIfInBounds_toArray, List.set_cons_zero, List.set_cons_succ, i64_w, i32_w, n1, n2, m1]
    rfl
  refine pure_ (i := 8) (N := some 59) (v := ?_) (a' := ?_) #[true, true, true, true, false, true, true, true, true, false, false, false, false, false, false, false] rfl rfl (by kernel_rfl) (fun _ _ _ h => h) (Or.inl ⟨by rfl, ?_⟩) ?_ ?_
  rotate_left
  · intro w'
    go_simp
    with_reducible rfl
  rotate_left
  · simp only [Act.put, List.setIfInBounds_toArray, List.set_cons_zero, List.set_cons_succ, i64_w, i32_w, n1, n2, m1]
    rfl
  refine take_ (i := 4) (N := some 55) (v := ?_) (a' := ?_) #[true, true, true, true, true, true, true, true, true, false, false, false, false, false, false, false] rfl rfl (by kernel_rfl) (fun _ _ _ h => h) (Or.inl ⟨by rfl, ?_⟩) hHeld ?_ ?_
  rotate_left
  · intro w' s0
    have zc := (bkCell s0 (a + 6)).trans h6
    clear s0
    go_simp
    with_reducible rfl
  rotate_left
  · simp only [Act.put, List.setIfInBounds_toArray, List.set_cons_zero, List.set_cons_succ, i64_w, i32_w, n1, n2, m1]
    rfl
  refine take_ (i := 9) (N := some 60) (v := ?_) (a' := ?_) #[true, true, true, true, true, true, true, true, true, true, false, false, false, false, false, false] rfl rfl (by kernel_rfl) (fun _ _ _ h => h) (Or.inl ⟨by rfl, ?_⟩) hHeld ?_ ?_
  rotate_left
  · intro w' s0
    have zc := (bkCell s0 (a + 2)).trans h2
    clear s0
    go_simp
    with_reducible rfl
  rotate_left
  · simp only [Act.put, List.setIfInBounds_toArray, List.set_cons_zero, List.set_cons_succ, i64_w, i32_w, n1, n2, m1]
    rfl
  refine pure_ (i := 10) (N := some 61) (v := ?_) (a' := ?_) #[true, true, true, true, true, true, true, true, true, true, true, false, false, false, false, false] rfl rfl (by kernel_rfl) (fun _ _ _ h => h) (Or.inl ⟨by rfl, ?_⟩) ?_ ?_
  rotate_left
  · intro w'
    go_simp
    with_reducible rfl
  rotate_left
  · simp only [Act.put, List.setIfInBounds_toArray, List.set_cons_zero, List.set_cons_succ, i64_w, i32_w, n1, n2, m1]
    rfl
  refine pure_ (i := 11) (N := some 62) (v := ?_) (a' := ?_) #[true, true, true, true, true, true, true, true, true, true, true, true, false, false, false, false] rfl rfl (by kernel_rfl) (fun _ _ _ h => h) (Or.inl ⟨by rfl, ?_⟩) ?_ ?_
  rotate_left
  · intro w'
    go_simp
    with_reducible rfl
  rotate_left
  · simp only [Act.put, List.setIfInBounds_toArray, List.set_cons_zero, List.set_cons_succ, i64_w, i32_w, n1, n2, m1]
    rfl
  refine pure_ (i := 12) (N := some 63) (v := ?_) (a' := ?_) #[true, true, true, true, true, true, true, true, true, true, true, true, true, false, false, false] rfl rfl (by kernel_rfl) (fun _ _ _ h => h) (Or.inl ⟨by rfl, ?_⟩) ?_ ?_
  rotate_left
  · intro w'
    go_simp
    with_reducible rfl
  rotate_left
  · simp only [Act.put, List.setIfInBounds_toArray, List.set_cons_zero, List.set_cons_succ, i64_w, i32_w, n1, n2, m1]
    rfl
  refine pure_ (i := 13) (N := some 64) (v := ?_) (a' := ?_) #[true, true, true, true, true, true, true, true, true, true, true, true, true, true, false, false] rfl rfl (by kernel_rfl) (fun _ _ _ h => h) (Or.inl ⟨by rfl, ?_⟩) ?_ ?_
  rotate_left
  · intro w'
    go_simp
    with_reducible rfl
  rotate_left
  · simp only [Act.put, List.setIfInBounds_toArray, List.set_cons_zero, List.set_cons_succ, i64_w, i32_w, n1, n2, m1]
    rfl
  refine pure_ (i := 14) (N := some 65) (v := ?_) (a' := ?_) #[true, true, true, true, true, true, true, true, true, true, true, true, true, true, true, false] rfl rfl (by kernel_rfl) (fun _ _ _ h => h) (Or.inl ⟨by rfl, ?_⟩) ?_ ?_
  rotate_left
  · intro w'
    go_simp
    with_reducible rfl
  rotate_left
  · simp only [Act.put, List.setIfInBounds_toArray, List.set_cons_zero, List.set_cons_succ, i64_w, i32_w, n1, n2, m1]
    rfl
  refine last_ (i := 15) (N := none) #[true, true, true, true, true, true, true, true, true, true, true, true, true, true, true, true] rfl rfl (by kernel_rfl) (by decide) (fun K hK => ?_)
  have z9 := bkFrozen hHeld (a + 6)
  have c9 := (bkCell hHeld (a + 6)).trans h6
  clear hHeld
  refine skip_ (w1 := ?_) (by rfl) rfl ?_ ?_
  rotate_left
  · go_simp
    rfl
  refine hK.out _ _ ?_
  clear hK K
  refine done_ (by kernel_rfl) ?_
  clear n1 n2 m1
  have hb2 := bkPut (cs' := cs.setIfInBounds (a + 6) (iv (520192))) HB.out (a + 6) (iv (520192)) rfl
  have x6 := bkCell (bkDw hb2) (a + 6)
  rw [Array.getElem?_setIfInBounds_self_of_lt (Array.getElem?_eq_some_iff.1 h6).1] at x6
  have y8 := (bkCell (bkDw hb2) (a + 8)).trans ((Array.getElem?_setIfInBounds_ne (by omega)).trans h8)
  have f8 := bkFrozen (bkDw hb2) (a + 8)
  have HB2 := Lib.hid (bkDw hb2)
  clear hb2 x8
  generalize hW : (w.setCell ⟨g, a + 6, none⟩ (.int .i64 (520192))).drew = w1 at *
  have hf : (cs.setIfInBounds (a + 6) (iv (520192))).setIfInBounds (a + 8) (.bool true) = (cs.setIfInBounds (a + 6) (iv (envL o l false true))).setIfInBounds (a + 8) (.bool (envF o l false true)) := by rw [HEL.out, HEF.out]
  have HF := Lib.hid hf
  have HGR := Lib.hid (show w.grownBy w1 (some g) from hW ▸ only_drew (only_setCell (only_refl w _) rfl _))
  have HK1 := Lib.hid hK1
  have e1 : ((520192 : Int) == 520192) = true := by simp
  clear hf hW hK1 h0 h2 h3 h4 h5 h6 h7 h8
  go_wp2
  exact HK1.out _ _ (ST.out _ _ _ _ _ _ _ _ _ _ _ _ _ _ _ _ _ _ _ _ _ _ _ _ _ _ _ _ _ _ _ _ _ _ _ _ _ _ _ _ _ _ _ _ _ _ _ _ _ _ _ _ _ _ _ _ _ _ _ _ _ _ _ _ _ _ _ _ _ _ _ _ _ _ _ _ _ _ _ _ _ _ _ _ _ _ _ _ _ _ _ _ _ _ _ _ _ HS.out.1 HS.out.2 w _ (bkPut HB2.out (a + 8) (.bool true) HF.out) HQ.out.1 HQ.out.2 (only_setCell HGR.out rfl _))
theorem moves_any (o : OP) (ho : o.Ok) (g a : Nat) (ph l step : Int) (f on : Bool) (cs : Array Value) (t : TypeId) (hp : 0 ≤ ph ∧ ph < 4194304) (hs : 0 ≤ step ∧ step ≤ 300000000) (hl : 0 ≤ l ∧ l ≤ 520192) (w : World) (hb : w.heap[g]? = some (.cells cs t (0, 0))) (h0 : cs[a]? = some (iv o.mu)) (h2 : cs[a + 2]? = some (iv o.at_)) (h3 : cs[a + 3]? = some (iv o.de)) (h4 : cs[a + 4]? = some (iv o.su)) (h5 : cs[a + 5]? = some (iv o.re)) (h6 : cs[a + 6]? = some (iv l)) (h7 : cs[a + 7]? = some (iv ph)) (h8 : cs[a + 8]? = some (.bool f)) :
    Calls Try.prog 106 #[.pointer (some ⟨g, a, none⟩), iv step, .bool on] w fun e w' => e = .returned (.tuple #[]) ∧ w'.heap[g]? = some (.cells (((cs.setIfInBounds (a + 6) (iv (envL o l f on))).setIfInBounds (a + 8) (.bool (envF o l f on))).setIfInBounds (a + 7) (iv (phN o ph step))) t (0, 0)) ∧ w.grownBy w' (some g) := by
  cases on
  · rcases Int.lt_or_le (8 * o.re) l with hc | hc
    · exact mv_off1 o ho g a ph l step cs t hp hs hl f hc w hb h0 h2 h3 h4 h5 h6 h7 h8
    · exact mv_off2 o ho g a ph l step cs t hp hs hl f hc w hb h0 h2 h3 h4 h5 h6 h7 h8
  · cases f
    · rcases Int.lt_or_le (l + 64 * o.at_) 520192 with hc | hc
      · exact mv_up1 o ho g a ph l step cs t hp hs hl hc w hb h0 h2 h3 h4 h5 h6 h7 h8
      · exact mv_up2 o ho g a ph l step cs t hp hs hl hc w hb h0 h2 h3 h4 h5 h6 h7 h8
    · rcases Int.lt_or_le (4096 * o.su) (l - 8 * o.de) with hc | hc
      · exact mv_dn1 o ho g a ph l step cs t hp hs hl hc w hb h0 h2 h3 h4 h5 h6 h7 h8
      · exact mv_dn2 o ho g a ph l step cs t hp hs hl hc w hb h0 h2 h3 h4 h5 h6 h7 h8
end Go.Proofs.Ytfodpoccjdaaaaa.CS

/- Four operators: the program's Sound, from its tables on. -/
import Derived.Test.YtfodpoccjdaaaaaReL
namespace Go.Proofs.Ytfodpoccjdaaaaa.CS
open Go.RowKit Go.Proofs.YtfodpoccjdaaaaaW.PrintLast Go.Proofs.Ytfodpoccjdaaaaa.TX Go.Proofs.Ytfodpoccjdaaaaa.PG
set_option linter.unusedVariables false
set_option linter.unusedSimpArgs false
def tlS : Nat → Code → Code
  | k, .seq (.region n a d) b => if n == k then b else tlS k b
  | k, .seq _ b => tlS k b
  | _, c => c
def rgS : Nat → Code → Code
  | k, .seq (.region n a d) b => if n == k then .region n a d else rgS k b
  | k, .seq _ b => rgS k b
  | _, c => c
noncomputable def bdS : Code := Try.f41.body.getD .skip
theorem made_ints (n : Nat) : madeCells (Value.int .i64 0).cells (n * 1) = fb_ (fun _ => iv 0) n := by
  apply Array.ext
  · simp [madeCells, fb_]
  · intro j h1 h2
    simp [madeCells, fb_, Value.cells, Nat.mod_one]
theorem make_any (n : Nat) (hn : n ≤ 200000) (w : World) : (Instr.makeSlice 29 (.int .i64 (n : Int)) (.int .i64 (n : Int))).run Try.prog w = .ok (.slice (some ⟨w.heap.size, 0, none⟩) n n) (w.alloc (.cells (fb_ (fun _ => iv 0) n) 3)) := by
  obtain ⟨i0, hi, hz0, hz1, hz2⟩ := info_parts TX.info3
  have h := run_make (P := Try.prog) w 29 3 i0 (.int .i64 0) Try.underlying29 hi hz0 .i64 .i64 n n (by omega) (by omega) (by rw [hz2]; omega) (by omega)
  simp only [Int.toNat_natCast] at h
  rw [h, hz1, made_ints]
theorem wir_one (a : Nat) : (wir a).all (·.oneCell') = true := by
  refine Array.all_eq_true_iff_forall_mem.2 fun v hv => ?_
  unfold wir fb_ at hv
  simp only [List.mem_toArray, List.mem_map] at hv
  obtain ⟨j, _, rfl⟩ := hv
  split <;> rfl
theorem wir_by (a : Nat) {i : Nat} (h : i < 4) : (wir a)[i]? = some (iv (byT a i)) := by
  unfold wir
  rw [fb_get (by omega), if_pos h]
theorem wir_out (a : Nat) : (wir a)[4]? = some (iv (outT a)) := by
  unfold wir
  rw [fb_get (by omega), if_neg (by omega)]
theorem fb_bd {p : RP} (hp : p.Ok) {x : Int} (h0 : -510 ≤ x) (h1 : x ≤ 510) : -3570 ≤ x * p.fb ∧ x * p.fb ≤ 3570 := by
  have hf := hp.2.1
  constructor
  · have h := Int.mul_le_mul_of_nonneg_right h0 hf.1
    have h4 : (-510 : Int) * 7 ≤ -510 * p.fb := Int.mul_le_mul_of_nonpos_left (by decide) hf.2
    omega
  · have h := Int.mul_le_mul_of_nonneg_right h1 hf.1
    have h4 : (510 : Int) * p.fb ≤ 510 * 7 := Int.mul_le_mul_of_nonneg_left hf.2 (by decide)
    omega
theorem modI_bd {p : RP} (hp : p.Ok) (hall : ∀ i, (p.pt.o i).Ok) {s : ST} (hs : s.Ok) (i : Nat) (hi : i < 4) : -100000 ≤ modI p.pt s i (vals p.pt s i) ∧ modI p.pt s i (vals p.pt s i) ≤ 100000 := by
  unfold modI
  by_cases h : i = 0
  · rw [if_pos h]
    have h1 := hs.y0 0
    have h2 := hs.b0
    have h3 := fb_bd hp (show -510 ≤ s.y 0 + s.bf by omega) (show s.y 0 + s.bf ≤ 510 by omega)
    show -100000 ≤ (s.y 0 + s.bf) * p.fb / 16 ∧ (s.y 0 + s.bf) * p.fb / 16 ≤ 100000
    omega
  · rw [if_neg h]
    have h1 := smK_bd (F := vals p.pt s i) (byT p.pt.al i) (n := 4) (fun j _ => vals_bd (fun i _ => hall i) hs i (by omega) j) i (by omega)
    omega
theorem vals_set (p : PT) (s : ST) (i : Nat) : (fb_ (fun j => iv (vals p s i j)) 4).setIfInBounds i (iv (putV (p.o i) (s.ph i) (s.l i) (modI p s i (vals p s i)))) = fb_ (fun j => iv (vals p s (i + 1) j)) 4 := by
  rw [fb_set]
  refine fb_congr fun j _ => ?_
  show (if j = i then _ else _) = iv (if j = i then _ else vals p s i j)
  by_cases h : j = i
  · rw [if_pos h, if_pos h]
  · rw [if_neg h, if_neg h]
theorem moves_mix (p : RP) (hall : ∀ i, (p.pt.o i).Ok) (s : ST) (hs : s.Ok) (st : Int) (hst : 0 ≤ st ∧ st ≤ 300000000) (on : Bool) (i : Nat) (hi : i < 4) (g : Nat) (w : World) (hb : w.heap[g]? = some (.cells (fb_ (vcF p (mixS s (stepS p.pt st on s) i)) 36) 109 (0, 0))) :
    Calls Try.prog 106 #[.pointer (some ⟨g, i * 9, none⟩), iv st, .bool on] w fun e w' => e = .returned (.tuple #[]) ∧ w'.heap[g]? = some (.cells (fb_ (vcF p (mixS s (stepS p.pt st on s) (i + 1))) 36) 109 (0, 0)) ∧ w.grownBy w' (some g) := by
  have e := mix_set p s (stepS p.pt st on s) i hi
  generalize hF : vcF p (mixS s (stepS p.pt st on s) i) = F at *
  have f0 : F (i * 9) = iv (p.o i).mu := by rw [← hF]; exact vcF_op p _ (k := 0) (by omega)
  have f2 : F (i * 9 + 2) = iv (p.o i).at_ := by rw [← hF]; exact vcF_op p _ (k := 2) (by omega)
  have f3 : F (i * 9 + 3) = iv (p.o i).de := by rw [← hF]; exact vcF_op p _ (k := 3) (by omega)
  have f4 : F (i * 9 + 4) = iv (p.o i).su := by rw [← hF]; exact vcF_op p _ (k := 4) (by omega)
  have f5 : F (i * 9 + 5) = iv (p.o i).re := by rw [← hF]; exact vcF_op p _ (k := 5) (by omega)
  have f6 : F (i * 9 + 6) = iv (s.l i) := by rw [← hF, vcF_l]; show iv (if i < i then _ else s.l i) = _; rw [if_neg (Nat.lt_irrefl i)]
  have f7 : F (i * 9 + 7) = iv (s.ph i) := by rw [← hF, vcF_p]; show iv (if i < i then _ else s.ph i) = _; rw [if_neg (Nat.lt_irrefl i)]
  have f8 : F (i * 9 + 8) = .bool (s.f i) := by rw [← hF, vcF_f]; show Value.bool (if i < i then _ else s.f i) = _; rw [if_neg (Nat.lt_irrefl i)]
  clear hF
  have h := moves_any (p.o i) (hall i) g (i * 9) (s.ph i) (s.l i) st (s.f i) on (fb_ F 36) 109 (hs.p0 i) hst (hs.l0 i) w hb (by rw [fb_get (by omega), f0]) (by rw [fb_get (by omega), f2]) (by rw [fb_get (by omega), f3]) (by rw [fb_get (by omega), f4]) (by rw [fb_get (by omega), f5]) (by rw [fb_get (by omega), f6]) (by rw [fb_get (by omega), f7]) (by rw [fb_get (by omega), f8])
  rw [← e]
  exact h
theorem frames_set (p : PT) (st on : Int) (k n : Nat) (fv : Int) (h : frameS p st on k = fv) : (fb_ (fun j => if j < k then iv (frameS p st on j) else iv 0) n).setIfInBounds k (iv fv) = fb_ (fun j => if j < k + 1 then iv (frameS p st on j) else iv 0) n := by
  rw [fb_set]
  refine fb_congr fun j _ => ?_
  show (if j = k then iv fv else if j < k then iv (frameS p st on j) else iv 0) = if j < k + 1 then iv (frameS p st on j) else iv 0
  by_cases e : j = k
  · subst e
    rw [if_pos rfl, if_pos (by omega), h]
  · rw [if_neg e]
    by_cases c : j < k
    · rw [if_pos c, if_pos (by omega)]
    · rw [if_neg c, if_neg (by omega)]
theorem frames_all (p : PT) (st on : Int) (n : Nat) : fb_ (fun j => if j < n then iv (frameS p st on j) else iv 0) n = fb_ (fun k => iv (frameS p st on k)) n := fb_congr fun j h => if_pos h
set_option maxHeartbeats 16000000 in
set_option maxRecDepth 100000 in
theorem snd_p2 (p : RP) (hp : p.Ok) (fr ou on : Int) (n : Nat) (g0 g1 : Nat) (u0 u6 u7 u8 u9 u10 u11 u13 u14 u15 u16 u17 u18 u19 u20 u21 u22 u23 u24 u25 u26 u27 u28 u29 u30 u31 u32 u33 u34 u35 u36 u37 u38 u39 u40 u41 u42 u43 u44 u45 u46 u47 u48 u49 u50 u51 u52 u53 u54 u55 u56 u57 u58 u59 u60 u61 u62 u63 u64 u65 u66 u67 u68 u69 u70 u71 u72 u73 u74 u75 u76 u77 u78 u79 u80 u81 u82 u83 u84 u85 u86 u87 u88 u89 u90 u91 u92 u93 u94 u95 u96 u97 u98 u99 u100 u101 u102 u103 u104 u105 u106 u107 u108 u109 u110 u111 u112 : Value) (hall : ∀ i, (p.o i).Ok) (h0 : n ≤ 200000) (h1 : 0 ≤ fr ∧ fr ≤ 16777216) (h2 : 1000 ≤ ou ∧ ou ≤ 96000) (h3 : 0 ≤ on ∧ on ≤ 200000) (w00 w : World) (hB : Below w00.heap.size w00 w) (h00 : w00.heap.size ≤ g0) (h01 : g0 < g1) (hP : w.heap[g0]? = some (.cells p.cs 52 (0, 0))) (hV : w.heap[g1]? = some (.cells (fb_ (vcF p ST.zero) 36) 109 (0, 0))) (K : Act → World → Prop) (hK : ∀ a w, (tlS 11 bdS).wp Try.prog (bodyPost Try.prog Try.f41 (fun e w' => ∃ g, e = .returned (.tuple #[.slice (some ⟨g, 0, none⟩) n n, iv 0]) ∧ w'.heap[g]? = some (.cells (fb_ (fun k => iv (frameS p.pt (fr * 16384 / ou) on k)) n) 3 (0, 0)) ∧ Below w00.heap.size w00 w')) a w → K a w) : (rgS 11 bdS).wp Try.prog (Exit.then K (bodyPost Try.prog Try.f41 (fun e w' => ∃ g, e = .returned (.tuple #[.slice (some ⟨g, 0, none⟩) n n, iv 0]) ∧ w'.heap[g]? = some (.cells (fb_ (fun k => iv (frameS p.pt (fr * 16384 / ou) on k)) n) 3 (0, 0)) ∧ Below w00.heap.size w00 w'))) ⟨#[u0, iv fr, iv ou, iv on, iv (n : Int), .pointer (some ⟨g0, 0, none⟩), u6, u7, u8, u9, u10, u11, .pointer (some ⟨g1, 0, none⟩), u13, u14, u15, u16, u17, u18, u19, u20, u21, u22, u23, u24, u25, u26, u27, u28, u29, u30, u31, u32, u33, u34, u35, u36, u37, u38, u39, u40, u41, u42, u43, u44, u45, u46, u47, u48, u49, u50, u51, u52, u53, u54, u55, u56, u57, u58, u59, u60, u61, u62, u63, u64, u65, u66, u67, u68, u69, u70, u71, u72, u73, u74, u75, u76, u77, u78, u79, u80, u81, u82, u83, u84, u85, u86, u87, u88, u89, u90, u91, u92, u93, u94, u95, u96, u97, u98, u99, u100, u101, u102, u103, u104, u105, u106, u107, u108, u109, u110, u111, u112], []⟩ w := by
  obtain ⟨f0, f1⟩ := h1
  obtain ⟨o0, o1⟩ := h2
  obtain ⟨k0, k1⟩ := h3
  have hal := hp.1
  have HP := Lib.hid hp
  have HALL := Lib.hid (show ∀ i, (p.pt.o i).Ok from hall)
  have PI := Lib.hid hP
  have VZ := Lib.hid hV
  have BI := Lib.hid hB
  obtain ⟨a, ha⟩ := Int.eq_ofNat_of_zero_le hal.1
  have ha8 : a < 8 := by omega
  have hpa : p.al.toNat = a := by omega
  have HA := Lib.hid (And.intro ha8 hpa)
  have ix := fun (W : World) => index_alg a ha8 W
  rw [← ha] at ix
  have hst0 : 0 ≤ fr * 16384 / ou := Int.ediv_nonneg (by omega) (by omega)
  have hst1 : fr * 16384 / ou ≤ 300000000 := by
    have : fr * 16384 / ou < 300000001 := Int.ediv_lt_of_lt_mul (by omega) (by omega)
    omega
  have n1 : wrap64 (fr * 16384) = fr * 16384 := Pure.w64 (by omega) (by omega)
  have t1 : Int.tdiv (fr * 16384) ou = fr * 16384 / ou := Int.tdiv_eq_ediv_of_nonneg (by omega)
  have n2 : wrap64 (fr * 16384 / ou) = fr * 16384 / ou := Pure.w64 (by omega) (by omega)
  have e0 : ¬ ou = 0 := by omega
  have HS := Lib.hid (And.intro hst0 hst1)
  clear hp hall hP hV hB hal ha ha8 hpa hst0 hst1
  conv at hK => enter [a, w, 1, 2]; whnf
  conv => arg 2; whnf
  refine start_ (n := 11) (S := fun w' => w'.heap[g0]? = some (.cells p.cs 52 (0, 0)) ∧ w'.heap[g1]? = some (.cells (fb_ (vcF p ST.zero) 36) 109 (0, 0)) ∧ Below w00.heap.size w00 w') (ds := [9]) #[false, false, false, false, false, false, false, false, false, false, false] (by kernel_rfl) rfl rfl ⟨PI.out, VZ.out, BI.out.drew⟩ (fun hHeld => ?_)
  refine pure_ (i := 1) (N := some 57) (v := ?_) (a' := ?_) #[false, true, false, false, false, false, false, false, false, false, false] rfl rfl (by kernel_rfl) (fun _ _ _ h => h) (Or.inl ⟨by rfl, ?_⟩) ?_ ?_
  rotate_left
  · intro w'
    go_simp
    with_reducible rfl
  rotate_left
  · simp only [Act.put, List.setIfInBounds_toArray, List.set_cons_zero, List.set_cons_succ, i64_w, i32_w, n1, t1, n2]
    rfl
  refine pure_ (i := 4) (N := some 60) (v := ?_) (a' := ?_) #[false, true, false, false, true, false, false, false, false, false, false] rfl rfl (by kernel_rfl) (fun _ _ _ h => h) (Or.inl ⟨by rfl, ?_⟩) ?_ ?_
  rotate_left
  · intro w'
    go_simp
    with_reducible rfl
  rotate_left
  · simp only [Act.put, List.setIfInBounds_toArray, List.set_cons_zero, List.set_cons_succ, i64_w, i32_w, n1, t1, n2]
    rfl
  refine pure_ (i := 5) (N := some 61) (v := ?_) (a' := ?_) #[false, true, false, false, true, true, false, false, false, false, false] rfl rfl (by kernel_rfl) (fun _ _ _ h => h) (Or.inl ⟨by rfl, ?_⟩) ?_ ?_
  rotate_left
  · intro w'
    go_simp
    with_reducible rfl
  rotate_left
  · simp only [Act.put, List.setIfInBounds_toArray, List.set_cons_zero, List.set_cons_succ, i64_w, i32_w, n1, t1, n2]
    rfl
  refine pure_ (i := 6) (N := some 62) (v := ?_) (a' := ?_) #[false, true, false, false, true, true, true, false, false, false, false] rfl rfl (by kernel_rfl) (fun _ _ _ h => h) (Or.inl ⟨by rfl, ?_⟩) ?_ ?_
  rotate_left
  · intro w'
    go_simp
    with_reducible rfl
  rotate_left
  · simp only [Act.put, List.setIfInBounds_toArray, List.set_cons_zero, List.set_cons_succ, i64_w, i32_w, n1, t1, n2]
    rfl
  refine pure_ (i := 7) (N := some 63) (v := ?_) (a' := ?_) #[false, true, false, false, true, true, true, true, false, false, false] rfl rfl (by kernel_rfl) (fun _ _ _ h => h) (Or.inl ⟨by rfl, ?_⟩) ?_ ?_
  rotate_left
  · intro w'
    go_simp
    with_reducible rfl
  rotate_left
  · simp only [Act.put, List.setIfInBounds_toArray, List.set_cons_zero, List.set_cons_succ, i64_w, i32_w, n1, t1, n2]
    rfl
  refine take_ (i := 2) (N := some 58) (v := ?_) (a' := ?_) #[false, true, true, false, true, true, true, true, false, false, false] rfl rfl (by kernel_rfl) (fun _ _ _ h => h) (Or.inl ⟨by rfl, ?_⟩) hHeld ?_ ?_
  rotate_left
  · rintro w' ⟨s0, s1, s2⟩
    have zc := (pt_head s0).1
    clear s0 s1 s2
    go_simp
    with_reducible rfl
  rotate_left
  · simp only [Act.put, List.setIfInBounds_toArray, List.set_cons_zero, List.set_cons_succ, i64_w, i32_w, n1, t1, n2]
    rfl
  refine join_ (σ := Nat) 2 #[true, true, true, true, true, true, true, true, true, false, false] (fun s => [(56, .agg algC), (15, .pointer (some ⟨s, 0, none⟩)), (59, .agg (wir a))]) (fun s w' => w'.heap[g0]? = some (.cells p.cs 52 (0, 0)) ∧ w'.heap[g1]? = some (.cells (fb_ (vcF p ST.zero) 36) 109 (0, 0)) ∧ Below w00.heap.size w00 w' ∧ w'.heap[s]? = some (.cells #[iv 0, iv 0, iv 0, iv 0, iv 0] 112 (0, 0)) ∧ g1 < s) ?_ ?_
  rotate_left
  · intro hCont
    refine two_ (i := 0) (j := 8) (Ni := some 56) (Nj := some 15) #[true, true, true, false, true, true, true, true, false, false, false] #[false, true, true, false, true, true, true, true, true, false, false] rfl rfl rfl rfl (by kernel_rfl) (by decide) (by decide) (fun K hK => ?_) (fun K hK => ?_)
    · skip
      obtain ⟨s0, s1, s2⟩ := hHeld
      refine goes_ Try.func103 (by kernel_rfl) rfl #[] (by rfl) rfl rfl (by simp only [List.map_toArray, List.map_nil]) ?_
      with_reducible refine (alg_any _).mono ?_
      rintro e wx ⟨rfl, hb⟩
      refine ⟨_, rfl, ?_⟩
      have Y0 := Lib.hid (bkBelow s0 hb)
      have Y1 := Lib.hid (bkBelow s1 hb)
      have Y2 := bdT s2 s2.size hb
      have YL := Lib.hid (Nat.lt_of_lt_of_le (bkLt s1) hb.size)
      clear hb s0 s1 s2
      refine hK.out _ _ ⟨Y0.out, Y1.out, Y2⟩ (fun hHeld => ?_)
      clear hK K
      refine norm_ (a' := ?_) ?_ ?_
      rotate_left
      · show Act.put _ (some 56) _ = _
        simp only [Act.put, List.setIfInBounds_toArray, List.set_cons_zero, List.set_cons_succ, i64_w, i32_w, n1, t1, n2]
        rfl
      refine take_ (i := 3) (N := some 59) (v := ?_) (a' := ?_) #[true, true, true, true, true, true, true, true, false, false, false] rfl rfl (by kernel_rfl) (fun _ _ _ h => h) (Or.inl ⟨by rfl, ?_⟩) hHeld ?_ ?_
      rotate_left
      · rintro w' ⟨s0, s1, s2⟩
        clear s0 s1 s2
        go_simp
        with_reducible rfl
      rotate_left
      · simp only [Act.put, List.setIfInBounds_toArray, List.set_cons_zero, List.set_cons_succ, i64_w, i32_w, n1, t1, n2]
        rfl
      refine one_ (i := 8) (N := some 15) #[true, true, true, true, true, true, true, true, true, false, false] rfl rfl (by kernel_rfl) (by decide) (fun K hK => ?_)
      obtain ⟨s0, s1, s2⟩ := hHeld
      refine value_ (w1 := ?_) (v := ?_) (by rfl) rfl ?_ ?_
      rotate_left 2
      · go_simp
        constructor
        · rfl
        · rfl
      refine hK.out _ _ ⟨bkAlloc s0 _, bkAlloc s1 _, bdT s2 s2.size ((Below.refl _ _).alloc (Nat.le_refl _) _)⟩ (fun hHeld => ?_)
      clear hK K
      refine norm_ (a' := ?_) ?_ ?_
      rotate_left
      · show Act.put _ (some 15) _ = _
        simp only [Act.put, List.setIfInBounds_toArray, List.set_cons_zero, List.set_cons_succ, i64_w, i32_w, n1, t1, n2]
        rfl
      exact norm_ (by simp only [putAll, Act.put, List.setIfInBounds_toArray, List.set_cons_zero, List.set_cons_succ]) (hCont (wx.heap.size) _ ⟨hHeld.1, hHeld.2.1, hHeld.2.2, heap_alloc_new wx _, YL.out⟩)
    · skip
      obtain ⟨s0, s1, s2⟩ := hHeld
      refine value_ (w1 := ?_) (v := ?_) (by rfl) rfl ?_ ?_
      rotate_left 2
      · go_simp
        constructor
        · rfl
        · rfl
      refine hK.out _ _ ⟨bkAlloc s0 _, bkAlloc s1 _, bdT s2 s2.size ((Below.refl _ _).alloc (Nat.le_refl _) _)⟩ (fun hHeld => ?_)
      clear hK K
      refine norm_ (a' := ?_) ?_ ?_
      rotate_left
      · show Act.put _ (some 15) _ = _
        simp only [Act.put, List.setIfInBounds_toArray, List.set_cons_zero, List.set_cons_succ, i64_w, i32_w, n1, t1, n2]
        rfl
      refine one_ (i := 0) (N := some 56) #[true, true, true, false, true, true, true, true, true, false, false] rfl rfl (by kernel_rfl) (by decide) (fun K hK => ?_)
      obtain ⟨s0, s1, s2⟩ := hHeld
      refine goes_ Try.func103 (by kernel_rfl) rfl #[] (by rfl) rfl rfl (by simp only [List.map_toArray, List.map_nil]) ?_
      with_reducible refine (alg_any _).mono ?_
      rintro e wx ⟨rfl, hb⟩
      refine ⟨_, rfl, ?_⟩
      have Y0 := Lib.hid (bkBelow s0 hb)
      have Y1 := Lib.hid (bkBelow s1 hb)
      have Y2 := bdT s2 s2.size hb
      have YB := Lib.hid (bkBelow (bkDw (heap_alloc_new w (Obj.cells #[iv 0, iv 0, iv 0, iv 0, iv 0] 112))) hb)
      clear hb s0 s1 s2
      refine hK.out _ _ ⟨Y0.out, Y1.out, Y2⟩ (fun hHeld => ?_)
      clear hK K
      refine norm_ (a' := ?_) ?_ ?_
      rotate_left
      · show Act.put _ (some 56) _ = _
        simp only [Act.put, List.setIfInBounds_toArray, List.set_cons_zero, List.set_cons_succ, i64_w, i32_w, n1, t1, n2]
        rfl
      refine take_ (i := 3) (N := some 59) (v := ?_) (a' := ?_) #[true, true, true, true, true, true, true, true, true, false, false] rfl rfl (by kernel_rfl) (fun _ _ _ h => h) (Or.inl ⟨by rfl, ?_⟩) hHeld ?_ ?_
      rotate_left
      · rintro w' ⟨s0, s1, s2⟩
        clear s0 s1 s2
        go_simp
        with_reducible rfl
      rotate_left
      · simp only [Act.put, List.setIfInBounds_toArray, List.set_cons_zero, List.set_cons_succ, i64_w, i32_w, n1, t1, n2]
        rfl
      exact norm_ (by simp only [putAll, Act.put, List.setIfInBounds_toArray, List.set_cons_zero, List.set_cons_succ]) (hCont (w.heap.size) _ ⟨Y0.out, Y1.out, Y2, YB.out, bkLt VZ.out⟩)
  rintro g2 wf ⟨F0, F1, F2, F3, F4⟩
  have hHeld : wf.heap[g0]? = some (.cells p.cs 52 (0, 0)) ∧ wf.heap[g1]? = some (.cells (fb_ (vcF p ST.zero) 36) 109 (0, 0)) ∧ Below w00.heap.size w00 wf := ⟨F0, F1, F2⟩
  refine norm_ (a' := ?_) ?_ ?_
  rotate_left
  · simp only [putAll, Act.put, List.setIfInBounds_toArray, List.set_cons_zero, List.set_cons_succ]
    rfl
  refine last_ (i := 9) (N := none) #[true, true, true, true, true, true, true, true, true, true, false] rfl rfl (by kernel_rfl) (by decide) (fun K hK => ?_)
  refine skip_ (w1 := ?_) (by rfl) rfl ?_ ?_
  rotate_left
  · refine exec_store_row 112 (.tmp 15) (.tmp 59) ?_ g2 (wir a) ?_ ?_ 112 _ F3 (by rw [wir, fb_size]; kernel_rfl) (by rw [wir, fb_size]; rfl) (wir_one a) <;> rfl
  refine hK.out _ _ ?_
  clear hK K
  refine pure_ (i := 10) (N := some 16) (v := ?_) (a' := ?_) #[true, true, true, true, true, true, true, true, true, true, true] rfl rfl (by kernel_rfl) (fun _ _ _ h => h) (Or.inl ⟨by rfl, ?_⟩) ?_ ?_
  rotate_left
  · intro w'
    go_simp
    with_reducible rfl
  rotate_left
  · simp only [Act.put, List.setIfInBounds_toArray, List.set_cons_zero, List.set_cons_succ, i64_w, i32_w, n1, t1, n2]
    rfl
  refine done_ (by kernel_rfl) ?_

  clear n1 t1 n2 e0 ix hHeld PI VZ BI
  have P2 := Lib.hid ((setRow_other wf g2 g0 (wir a) (by omega)).trans F0)
  have V2 := Lib.hid ((setRow_other wf g2 g1 (wir a) (by omega)).trans F1)
  have W2 := Lib.hid (setRow_heap _ _ _ (wir a) _ _ F3)
  have B2 := Lib.hid (below_setRow F2 (by omega : w00.heap.size ≤ g2) (wir a))
  clear F0 F1 F2 F3
  generalize wf.setRow g2 (wir a) = w2 at *
  have HG := Lib.hid (And.intro h00 (And.intro h01 F4))
  clear h00 h01 F4 f0 f1 o0 o1 k0 k1
  generalize fr * 16384 / ou = st at *
  have hmk := fun (W : World) => make_any n h0 W
  go_upto_region 14 with (fail)
  clear hmk
  have HG4 := Lib.hid (show g2 < w2.heap.size from bkLt W2.out)
  have P3 := Lib.hid (bkAlloc P2.out (Obj.cells (fb_ (fun _ => iv 0) n) 3))
  have V3 := Lib.hid (bkAlloc V2.out (Obj.cells (fb_ (fun _ => iv 0) n) 3))
  have W3 := Lib.hid (bkAlloc W2.out (Obj.cells (fb_ (fun _ => iv 0) n) 3))
  have F3 := Lib.hid (heap_alloc_new w2 (Obj.cells (fb_ (fun _ => iv 0) n) 3))
  have B3 := Lib.hid (B2.out.alloc B2.out.size (Obj.cells (fb_ (fun _ => iv 0) n) 3))
  clear P2 V2 W2 B2
  generalize hw3 : w2.heap.size = g4 at *
  generalize w2.alloc (Obj.cells (fb_ (fun _ => iv 0) n) 3) = w3 at *
  clear hw3
  have g00 : (0 : Int) ≤ (n : Int) := by omega
  go_wp2
  go_loopw [17, 18, 68] (fun la be v wr => ∃ k : Nat, k ≤ n ∧ v = iv k ∧ la = iv ((stS p.pt st on k).y 0) ∧ be = iv (stS p.pt st on k).bf ∧ Hid (wr.heap[g0]? = some (.cells p.cs 52 (0, 0))) ∧ Hid (wr.heap[g1]? = some (.cells (fb_ (vcF p (stS p.pt st on k)) 36) 109 (0, 0))) ∧ Hid (wr.heap[g2]? = some (.cells (wir a) 112 (0, 0))) ∧ Hid (wr.heap[g4]? = some (.cells (fb_ (fun j => if j < k then iv (frameS p.pt st on j) else iv 0) n) 3 (0, 0))) ∧ Hid (Below w00.heap.size w00 wr)) (fun _ _ v _ => n - (intOf v).toNat)
  case atStart => exact ⟨0, by omega, rfl, rfl, rfl, P3, V3, W3, Lib.hid (by rw [show fb_ (fun j => if j < 0 then iv (frameS p.pt st on j) else iv 0) n = fb_ (fun _ => iv 0) n from fb_congr fun j _ => by rw [if_neg (by omega)]]; exact F3.out), B3⟩
  case round =>
    clear P3 V3 W3 F3 B3
    obtain ⟨k, hk, rfl, rfl, rfl, P3, V3, W3, F3, B3⟩ := hrel
    have gk : (0 : Int) ≤ (k : Int) := by omega
    by_cases hlt : k < n
    · have h1 : (k : Int) < (n : Int) := by omega
      have HSO := Lib.hid (stS_ok HALL.out st on k)
      have HSS := Lib.hid (show stS p.pt st on (k + 1) = stepS p.pt st (decide ((k : Int) < on)) (stS p.pt st on k) from rfl)
      have HFR := Lib.hid (show frameS p.pt st on k = smK (vals p.pt (stS p.pt st on k) 4) (outT p.pt.al) 4 from rfl)
      have HV0 := Lib.hid (show fb_ (vcF p (mixS (stS p.pt st on k) (stepS p.pt st (decide ((k : Int) < on)) (stS p.pt st on k)) 0)) 36 = fb_ (vcF p (stS p.pt st on k)) 36 from mix_zero _ _ _)
      generalize stS p.pt st on k = s at *
      generalize hs' : stepS p.pt st (decide ((k : Int) < on)) s = s' at *
      have HS' := Lib.hid hs'
      clear hs'
      have HK := Lib.hid (And.intro hlt hk)
      go_upto_region 18 with (fail)
      have P4 := Lib.hid (bkAlloc P3.out (Obj.cells #[iv 0, iv 0, iv 0, iv 0] 110))
      have V4 := Lib.hid (bkAlloc V3.out (Obj.cells #[iv 0, iv 0, iv 0, iv 0] 110))
      have W4 := Lib.hid (bkAlloc W3.out (Obj.cells #[iv 0, iv 0, iv 0, iv 0] 110))
      have F4 := Lib.hid (bkAlloc F3.out (Obj.cells #[iv 0, iv 0, iv 0, iv 0] 110))
      have Y4 := Lib.hid (show (wr.alloc (Obj.cells #[iv 0, iv 0, iv 0, iv 0] 110)).heap[wr.heap.size]? = some (.cells (fb_ (fun j => iv (vals p.pt s 0 j)) 4) 110 (0, 0)) from heap_alloc_new wr _)
      have B4 := Lib.hid (B3.out.alloc B3.out.size (Obj.cells #[iv 0, iv 0, iv 0, iv 0] 110))
      have HG5 := Lib.hid (show g4 < wr.heap.size from bkLt F3.out)
      clear P3 V3 W3 F3 B3
      generalize hw5 : wr.heap.size = g5 at *
      generalize wr.alloc (Obj.cells #[iv 0, iv 0, iv 0, iv 0] 110) = w4 at *
      clear hw5
      go_wp2
      go_loopw [71] (fun v wr => ∃ i : Nat, i ≤ 4 ∧ v = iv i ∧ Hid (wr.heap[g0]? = some (.cells p.cs 52 (0, 0))) ∧ Hid (wr.heap[g1]? = some (.cells (fb_ (vcF p (mixS s s' i)) 36) 109 (0, 0))) ∧ Hid (wr.heap[g2]? = some (.cells (wir a) 112 (0, 0))) ∧ Hid (wr.heap[g4]? = some (.cells (fb_ (fun j => if j < k then iv (frameS p.pt st on j) else iv 0) n) 3 (0, 0))) ∧ Hid (wr.heap[g5]? = some (.cells (fb_ (fun j => iv (vals p.pt s i j)) 4) 110 (0, 0))) ∧ Hid (Below w00.heap.size w00 wr)) (fun v _ => 4 - (intOf v).toNat)
      case atStart => exact ⟨0, by omega, rfl, P4, Lib.hid (by rw [HV0.out]; exact V4.out), W4, F4, Y4, B4⟩
      case round =>
        clear P4 V4 W4 F4 Y4 B4
        obtain ⟨i, hi, rfl, P6, V6, W6, F6, Y6, B6⟩ := hrel
        have gi : (0 : Int) ≤ (i : Int) := by omega
        by_cases hi4 : i < 4
        · have h2 : (i : Int) < 4 := by omega
          have wc := (bkCell W6.out i).trans (wir_by a hi4)
          have hby := byT_bd a i HA.out.1 hi4
          have SM := Lib.hid fun (W : World) (h : W.heap[g5]? = some (.cells (fb_ (fun j => iv (vals p.pt s i j)) 4) 110 (0, 0))) => sum_any (vals p.pt s i) g5 (byT a i) hby (fun j _ => vals_bd (fun i _ => HALL.out i) HSO.out i hi j) W h
          have HMB := Lib.hid (modI_bd HP.out HALL.out HSO.out i hi4)
          go_upto_region 22 with (go_at_call 104; (with_reducible refine (SM.out _ Y6.out).mono ?_); rintro e w7 ⟨rfl, mq, hmq⟩; have hb7 := (show Below wr.heap.size wr w7 from hmq ▸ bdN (Below.refl _ _) mq); have P7 := Lib.hid (bkBelow P6.out hb7); have V7 := Lib.hid (bkBelow V6.out hb7); have W7 := Lib.hid (bkBelow W6.out hb7); have F7 := Lib.hid (bkBelow F6.out hb7); have Y7 := Lib.hid (bkBelow Y6.out hb7); have B7 := Lib.hid (bdT B6.out B6.out.size hb7); clear hb7 hmq)
          clear wc hby SM P6 V6 W6 F6 Y6 B6
          by_cases hz : i = 0
          · have e1 : ((i : Int) == 0) = true := by simp [hz]
            have e2 : (i == 0) = true := by simp [hz]
            have z1 := (pt_head P7.out).2
            obtain ⟨u0_, u1_⟩ := HSO.out.y0 0
            obtain ⟨u2_, u3_⟩ := HSO.out.b0
            obtain ⟨u4_, u5_⟩ := fb_bd HP.out (show -510 ≤ s.y 0 + s.bf by omega) (show s.y 0 + s.bf ≤ 510 by omega)
            have HM := Lib.hid (show (s.y 0 + s.bf) * p.fb / 16 = modI p.pt s i (vals p.pt s i) from (if_pos hz).symm)
            clear hz
            go_upto_region 24 with (fail)
            rw [HM.out]
            clear e1 e2 z1 u0_ u1_ u2_ u3_ u4_ u5_ HM
            have hM := HMB.out
            have PUT := Lib.hid fun (W : World) (h : W.heap[g1]? = some (.cells (fb_ (vcF p (mixS s s' i)) 36) 109 (0, 0))) => (show Calls Try.prog 105 #[.pointer (some ⟨g1, i * 9, none⟩), iv (modI p.pt s i (vals p.pt s i))] W fun e w' => e = .returned (iv (putV (p.o i) (s.ph i) (s.l i) (modI p.pt s i (vals p.pt s i)))) ∧ Below W.heap.size W w' from
              put_any (p.o i) (HALL.out i) g1 (i * 9) (s.ph i) (s.l i) (modI p.pt s i (vals p.pt s i)) (HSO.out.p0 i) (HSO.out.l0 i) hM W ((bkCell h _).trans ((fb_get (by omega)).trans (congrArg some (vcF_op p _ (by omega))))) ((bkCell h _).trans ((fb_get (by omega)).trans (congrArg some ((vcF_l p _ i).trans (congrArg iv (if_neg (Nat.lt_irrefl i))))))) ((bkCell h _).trans ((fb_get (by omega)).trans (congrArg some ((vcF_p p _ i).trans (congrArg iv (if_neg (Nat.lt_irrefl i))))))))
            have hVI := vals_set p.pt s i
            have HVI := Lib.hid hVI
            clear hM hVI
            generalize modI p.pt s i (vals p.pt s i) = mo at *
            generalize hpv : putV (p.pt.o i) (s.ph i) (s.l i) mo = pv at *
            have HPV := Lib.hid (show putV (p.o i) (s.ph i) (s.l i) mo = pv from hpv)
            clear hpv
            rw [HPV.out] at PUT
            go_upto_region 25 with (go_at_call 105; (with_reducible refine (PUT.out _ V7.out).mono ?_); rintro e w8 ⟨rfl, hb8⟩; have P8 := Lib.hid (bkBelow P7.out hb8); have V8 := Lib.hid (bkBelow V7.out hb8); have W8 := Lib.hid (bkBelow W7.out hb8); have F8 := Lib.hid (bkBelow F7.out hb8); have Y8 := Lib.hid (bkBelow Y7.out hb8); have B8 := Lib.hid (bdT B7.out B7.out.size hb8); have yc := (bkCell Y8.out i).trans (fb_get hi4); have yf := bkFrozen Y8.out i; clear hb8)
            clear yc yf P7 V7 W7 F7 Y7 B7 PUT HPV
            obtain ⟨q0, q1, q2⟩ := HG.out
            have q4 := HG4.out
            have q5 := HG5.out
            have P9 := Lib.hid (bkFar P8.out (p := ⟨g5, i, none⟩) (by show g0 ≠ g5; omega) (iv pv))
            have V9 := Lib.hid (bkFar V8.out (p := ⟨g5, i, none⟩) (by show g1 ≠ g5; omega) (iv pv))
            have W9 := Lib.hid (bkFar W8.out (p := ⟨g5, i, none⟩) (by show g2 ≠ g5; omega) (iv pv))
            have F9 := Lib.hid (bkFar F8.out (p := ⟨g5, i, none⟩) (by show g4 ≠ g5; omega) (iv pv))
            have Y9 := Lib.hid (bkPut Y8.out i (iv pv) HVI.out)
            have B9 := Lib.hid (B8.out.setCell (p := ⟨g5, i, none⟩) (by show w00.heap.size ≤ g5; omega) (iv pv))
            clear q0 q1 q2 q4 q5 P8 V8 W8 F8 Y8 B8
            generalize w8.setCell ⟨g5, i, none⟩ (.int .i64 pv) = w9 at *
            have MV := Lib.hid (moves_mix p HALL.out s HSO.out st HS.out (decide ((k : Int) < on)) i hi4 g1 w9 (by rw [HS'.out]; exact V9.out))
            rw [HS'.out] at MV
            go_wp2_with (go_at_call 106; (with_reducible refine MV.out.mono ?_); rintro e wA ⟨rfl, VA, hgA⟩; have PA := Lib.hid (grBlk P9.out hgA (fun h => by have := HG.out.2.1; injection h; omega)); have WA := Lib.hid (grBlk W9.out hgA (fun h => by have := HG.out.2.2; injection h; omega)); have FA := Lib.hid (grBlk F9.out hgA (fun h => by have := HG.out.2.2; have := HG4.out; injection h; omega)); have YA := Lib.hid (grBlk Y9.out hgA (fun h => by have := HG.out.2.2; have := HG4.out; have := HG5.out; injection h; omega)); have BA := Lib.hid (B9.out.grown hgA B9.out.size (fun k hk => by have := HG.out; injection hk; omega)); have VB := Lib.hid VA; clear VA hgA)
            go_roundw
            case rel => exact ⟨i + 1, by omega, by go_num, PA, VB, WA, FA, YA, BA⟩
            case measure => simp [intOf]; omega
          · have e1 : ((i : Int) == 0) = false := by simp; omega
            have e2 : (i == 0) = false := by simp [hz]
            have HM := Lib.hid (show smK (vals p.pt s i) (byT a i) 4 = modI p.pt s i (vals p.pt s i) from by
              unfold modI
              rw [if_neg hz, show p.pt.al = a from HA.out.2]
              have h := smK_zero (F := vals p.pt s i) (byT a i) i (4 - i) (fun j h1 _ => vals_late p.pt s i j h1)
              rwa [show i + (4 - i) = 4 by omega] at h)
            clear hz
            go_upto_region 24 with (fail)
            rw [HM.out]
            clear e1 e2 HM
            have hM := HMB.out
            have PUT := Lib.hid fun (W : World) (h : W.heap[g1]? = some (.cells (fb_ (vcF p (mixS s s' i)) 36) 109 (0, 0))) => (show Calls Try.prog 105 #[.pointer (some ⟨g1, i * 9, none⟩), iv (modI p.pt s i (vals p.pt s i))] W fun e w' => e = .returned (iv (putV (p.o i) (s.ph i) (s.l i) (modI p.pt s i (vals p.pt s i)))) ∧ Below W.heap.size W w' from
              put_any (p.o i) (HALL.out i) g1 (i * 9) (s.ph i) (s.l i) (modI p.pt s i (vals p.pt s i)) (HSO.out.p0 i) (HSO.out.l0 i) hM W ((bkCell h _).trans ((fb_get (by omega)).trans (congrArg some (vcF_op p _ (by omega))))) ((bkCell h _).trans ((fb_get (by omega)).trans (congrArg some ((vcF_l p _ i).trans (congrArg iv (if_neg (Nat.lt_irrefl i))))))) ((bkCell h _).trans ((fb_get (by omega)).trans (congrArg some ((vcF_p p _ i).trans (congrArg iv (if_neg (Nat.lt_irrefl i))))))))
            have hVI := vals_set p.pt s i
            have HVI := Lib.hid hVI
            clear hM hVI
            generalize modI p.pt s i (vals p.pt s i) = mo at *
            generalize hpv : putV (p.pt.o i) (s.ph i) (s.l i) mo = pv at *
            have HPV := Lib.hid (show putV (p.o i) (s.ph i) (s.l i) mo = pv from hpv)
            clear hpv
            rw [HPV.out] at PUT
            go_upto_region 25 with (go_at_call 105; (with_reducible refine (PUT.out _ V7.out).mono ?_); rintro e w8 ⟨rfl, hb8⟩; have P8 := Lib.hid (bkBelow P7.out hb8); have V8 := Lib.hid (bkBelow V7.out hb8); have W8 := Lib.hid (bkBelow W7.out hb8); have F8 := Lib.hid (bkBelow F7.out hb8); have Y8 := Lib.hid (bkBelow Y7.out hb8); have B8 := Lib.hid (bdT B7.out B7.out.size hb8); have yc := (bkCell Y8.out i).trans (fb_get hi4); have yf := bkFrozen Y8.out i; clear hb8)
            clear yc yf P7 V7 W7 F7 Y7 B7 PUT HPV
            obtain ⟨q0, q1, q2⟩ := HG.out
            have q4 := HG4.out
            have q5 := HG5.out
            have P9 := Lib.hid (bkFar P8.out (p := ⟨g5, i, none⟩) (by show g0 ≠ g5; omega) (iv pv))
            have V9 := Lib.hid (bkFar V8.out (p := ⟨g5, i, none⟩) (by show g1 ≠ g5; omega) (iv pv))
            have W9 := Lib.hid (bkFar W8.out (p := ⟨g5, i, none⟩) (by show g2 ≠ g5; omega) (iv pv))
            have F9 := Lib.hid (bkFar F8.out (p := ⟨g5, i, none⟩) (by show g4 ≠ g5; omega) (iv pv))
            have Y9 := Lib.hid (bkPut Y8.out i (iv pv) HVI.out)
            have B9 := Lib.hid (B8.out.setCell (p := ⟨g5, i, none⟩) (by show w00.heap.size ≤ g5; omega) (iv pv))
            clear q0 q1 q2 q4 q5 P8 V8 W8 F8 Y8 B8
            generalize w8.setCell ⟨g5, i, none⟩ (.int .i64 pv) = w9 at *
            have MV := Lib.hid (moves_mix p HALL.out s HSO.out st HS.out (decide ((k : Int) < on)) i hi4 g1 w9 (by rw [HS'.out]; exact V9.out))
            rw [HS'.out] at MV
            go_wp2_with (go_at_call 106; (with_reducible refine MV.out.mono ?_); rintro e wA ⟨rfl, VA, hgA⟩; have PA := Lib.hid (grBlk P9.out hgA (fun h => by have := HG.out.2.1; injection h; omega)); have WA := Lib.hid (grBlk W9.out hgA (fun h => by have := HG.out.2.2; injection h; omega)); have FA := Lib.hid (grBlk F9.out hgA (fun h => by have := HG.out.2.2; have := HG4.out; injection h; omega)); have YA := Lib.hid (grBlk Y9.out hgA (fun h => by have := HG.out.2.2; have := HG4.out; have := HG5.out; injection h; omega)); have BA := Lib.hid (B9.out.grown hgA B9.out.size (fun k hk => by have := HG.out; injection hk; omega)); have VB := Lib.hid VA; clear VA hgA)
            go_roundw
            case rel => exact ⟨i + 1, by omega, by go_num, PA, VB, WA, FA, YA, BA⟩
            case measure => simp [intOf]; omega
        · have h2 : decide ((i : Int) < 4) = false := decide_eq_false (by omega)
          obtain rfl : i = 4 := by omega
          have V7 := Lib.hid (show wr.heap[g1]? = some (.cells (fb_ (vcF p s') 36) 109 (0, 0)) from by rw [← mix_all p s s']; exact V6.out)
          have y0 := (bkCell Y6.out 0).trans (fb_get (F := fun j => iv (vals p.pt s 4 j)) (n := 4) (by omega))
          have wc := (bkCell W6.out 4).trans (wir_out a)
          have SM := Lib.hid fun (W : World) (h : W.heap[g5]? = some (.cells (fb_ (fun j => iv (vals p.pt s 4 j)) 4) 110 (0, 0))) => sum_any (vals p.pt s 4) g5 (outT a) (outT_bd a HA.out.1) (fun j _ => vals_bd (fun i _ => HALL.out i) HSO.out 4 (by omega) j) W h
          have HE := Lib.hid (show smK (vals p.pt s 4) (outT a) 4 = frameS p.pt st on k from by rw [HFR.out, show p.pt.al = a from HA.out.2])
          have HLT := Lib.hid hlt
          rw [HE.out] at SM
          generalize hfr : frameS p.pt st on k = fv at *
          have HFV := Lib.hid hfr
          clear hfr
          go_upto_region 28 with (fail)
          clear y0
          go_upto_region 29 with (go_at_call 104; (with_reducible refine (SM.out _ Y6.out).mono ?_); rintro e w7 ⟨rfl, mq, hmq⟩; have hb7 := (show Below wr.heap.size wr w7 from hmq ▸ bdN (Below.refl _ _) mq); have P8 := Lib.hid (bkBelow P6.out hb7); have V8 := Lib.hid (bkBelow V7.out hb7); have W8 := Lib.hid (bkBelow W6.out hb7); have F8 := Lib.hid (bkBelow F6.out hb7); have B8 := Lib.hid (bdT B6.out B6.out.size hb7); have yc := (bkCell F8.out k).trans (fb_get HLT.out); have yf := bkFrozen F8.out k; clear hb7 hmq)
          clear yc yf wc SM P6 V6 V7 W6 F6 Y6 B6
          obtain ⟨q0, q1, q2⟩ := HG.out
          have q4 := HG4.out
          have P9 := Lib.hid (bkFar P8.out (p := ⟨g4, k, none⟩) (by show g0 ≠ g4; omega) (iv fv))
          have V9 := Lib.hid (bkFar V8.out (p := ⟨g4, k, none⟩) (by show g1 ≠ g4; omega) (iv fv))
          have W9 := Lib.hid (bkFar W8.out (p := ⟨g4, k, none⟩) (by show g2 ≠ g4; omega) (iv fv))
          have F9 := Lib.hid (bkPut F8.out k (iv fv) (frames_set p.pt st on k n fv HFV.out))
          have B9 := Lib.hid (B8.out.setCell (p := ⟨g4, k, none⟩) (by show w00.heap.size ≤ g4; omega) (iv fv))
          clear q0 q1 q2 q4 P8 V8 W8 F8 B8
          generalize w7.setCell ⟨g4, k, none⟩ (.int .i64 fv) = w9 at *
          have e3 : iv (vals p.pt s 4 0) = iv ((stS p.pt st on (k + 1)).y 0) := by rw [HSS.out, ← HS'.out]; rfl
          have e4 : iv (s.y 0) = iv ((stS p.pt st on (k + 1)).bf) := by rw [HSS.out, ← HS'.out]; rfl
          have VE := Lib.hid (show w9.heap[g1]? = some (.cells (fb_ (vcF p (stS p.pt st on (k + 1))) 36) 109 (0, 0)) from by rw [HSS.out]; exact V9.out)
          have E3 := Lib.hid e3
          have E4 := Lib.hid e4
          clear e3 e4
          go_wp2
          go_roundw
          case rel => exact ⟨k + 1, by omega, by go_num, E3.out, E4.out, P9, VE, W9, F9, B9⟩
          case measure => simp [intOf]; omega
    · have h1 : decide ((k : Int) < (n : Int)) = false := decide_eq_false (by omega)
      obtain rfl : n = k := by omega
      go_wp2
      go_ret2
      exact ⟨g4, rfl, (by rw [← frames_all p.pt st on n]; exact F3.out), B3.out⟩
end Go.Proofs.Ytfodpoccjdaaaaa.CS
